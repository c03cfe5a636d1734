import PyProof.Rows.All
import Wide.All
import OpenK.AllK
import Wide.FinOn
import HandS.ForMost
import HandS.ForExc
import HandS.ExcIs
import HandS.Evl
import HandS.IsInst
import HandS.Rev
import HandS.More
import HandS.Steps
import KE.KTupSum
import PySem.Challenge.RW_blockturn_k16_boards_and_rules_written
set_option Elab.async false
set_option linter.all false
set_option maxRecDepth 100000
set_option maxHeartbeats 4000000
namespace BT
open PySem PySem.Spec PyProof.Rows L2 Evl
/-! ### defs by name, defs that are called -/
structure DefAt (K : PySem.W.Frag) (mg : Str → Option Value) (x : String) (st : Stmt) (ps : List Str) (f : Addr) (fd : FuncData) : Prop where
  g : mg x = some (.ref f)
  F : Fun K x x st f fd
  b : Binds K fd ps []
structure CalE (P : Program) (w : World) (K : PySem.W.Frag) (mg : Str → Option Value) (base : Heap) (CX : CXT) (k : Nat) (x : Str) (ps : List Str) (sp : Sp) : Prop where
  ex : ∃ (f : Addr) (fd : FuncData), FnOk P w K mg base CX k f fd ps sp ∧ mg x = some (.ref f) ∧ PySem.W.keepIn K (.ref f) = true ∧ Binds K fd ps []

/-! ### what a reading evaluates to, some value of which P holds -/
def Mono (P : V → Hp → Prop) : Prop := ∀ v H H', Ex H H' → P v H → P v H'
def EvP (te : TE) (σ : L2.St) (H : Hp) (P : V → Hp → Prop) : Prop := ∀ H1, Ex H H1 → ∀ Q : VK, (∀ v H2, Ex H1 H2 → P v H2 → Q v H2) → te σ H1 Q
def EvLP (te : TE) (σ : L2.St) (H : Hp) (n : Nat) (P : Nat → V → Hp → Prop) : Prop :=
  ∀ H1, Ex H H1 → ∀ Q : VK, (∀ p H2 vs, H1 p = none → Ex H1 H2 → H2 p = some (.lst vs) → vs.length = n → (∀ i v, vs[i]? = some v → P i v H2) → Q (.ref p) H2) → te σ H1 Q
def RetP (P : V → Hp → Prop) (H : Hp) (Q : VK) : Prop := ∀ v H2, Ex H H2 → P v H2 → Q v H2
def SpP (sp : Sp) (vs : List V) (H : Hp) (P : V → Hp → Prop) : Prop := ∀ H1, Ex H H1 → ∀ Q : VK, RetP P H1 Q → ∀ E : XK, sp vs H1 Q E
section
variable {K : PySem.W.Frag} {σ : L2.St} {H H' : Hp} {ta tb te tx : TE} {t u : TT} {x y z v : V} {r : R2} {P : V → Hp → Prop}
theorem EvU.mono {xs : List V} (e : Ex H H') (h : EvU te σ H xs) : EvU te σ H' xs := fun H1 e1 => h H1 (e.trans e1)
theorem EvP.mono (e : Ex H H') (h : EvP te σ H P) : EvP te σ H' P := fun H1 e1 => h H1 (e.trans e1)
theorem ep_of (h : Ev te σ H v) (hp : ∀ H1, Ex H H1 → P v H1) : EvP te σ H P := fun H1 e Q q => h H1 e Q fun H2 e2 => q v H2 e2 (hp H2 (e.trans e2))
theorem ep_weak {P' : V → Hp → Prop} (h : EvP te σ H P) (hp : ∀ v H1, Ex H H1 → P v H1 → P' v H1) : EvP te σ H P' := fun H1 e Q q => h H1 e Q fun v H2 e2 p => q v H2 e2 (hp v H2 (e.trans e2) p)
theorem ep_call {sp : Sp} {dvs vs : List V} {E : XK} {ta : TA} (h : EvA ta σ H vs) (hs : SpP sp (vs ++ dvs) H P) : EvP (tCall sp dvs E ta) σ H P :=
  fun H1 e Q q => h H1 e _ fun H2 e2 => hs H2 (e.trans e2) Q (fun v H3 e3 p => q v H3 (e2.trans e3) p) E
/-- an argument some of whose facts are known -/
def EvAP (ta : TA) (σ : L2.St) (H : Hp) (P : List V → Hp → Prop) : Prop := ∀ H1, Ex H H1 → ∀ Q : List V → Hp → Prop, (∀ vs H2, Ex H1 H2 → P vs H2 → Q vs H2) → ta σ H1 Q
theorem eap_of {ta : TA} {vs : List V} {P : List V → Hp → Prop} (h : EvA ta σ H vs) (hp : ∀ H1, Ex H H1 → P vs H1) : EvAP ta σ H P := fun H1 e Q q => h H1 e Q fun H2 e2 => q vs H2 e2 (hp H2 (e.trans e2))
theorem eap_cons {ta : TA} {P : V → Hp → Prop} {R S : List V → Hp → Prop} (hm : Mono P) (h : EvP te σ H P) (hr : EvAP ta σ H R) (hs : ∀ v vs H1, Ex H H1 → P v H1 → R vs H1 → S (v :: vs) H1) : EvAP (tCons te ta) σ H S :=
  fun H1 e Q q => h H1 e _ fun v H2 e2 p => hr H2 (e.trans e2) _ fun vs H3 e3 p3 => q (v :: vs) H3 (e2.trans e3) (hs v vs H3 ((e.trans e2).trans e3) (hm v H2 H3 e3 p) p3)
theorem ep_callP {sp : Sp} {dvs : List V} {E : XK} {ta : TA} {R : List V → Hp → Prop} (h : EvAP ta σ H R) (hs : ∀ vs H1, Ex H H1 → R vs H1 → SpP sp (vs ++ dvs) H1 P) : EvP (tCall sp dvs E ta) σ H P :=
  fun H1 e Q q => h H1 e _ fun vs H2 e2 p => hs vs H2 (e.trans e2) p H2 (Ex.refl H2) Q (fun v H3 e3 p => q v H3 (e2.trans e3) p) E
theorem ev_opP {P2 : V → Hp → Prop} (m : Mono P) (ha : EvP ta σ H P) (hb : EvP tb σ H P2) (hr : ∀ v u H1, Ex H H1 → P v H1 → P2 u H1 → RV r v u H1 z) : Ev (tOp r ta tb) σ H z :=
  fun H1 e Q q => ha H1 e _ fun v H2 e2 p => hb H2 (e.trans e2) _ fun u H3 e3 p2 => hr v u H3 ((e.trans e2).trans e3) (m v H2 H3 e3 p) p2 H3 (Ex.refl H3) Q fun H4 e4 => q H4 ((e2.trans e3).trans e4)
theorem ep_opP {P2 P3 : V → Hp → Prop} (m : Mono P) (ha : EvP ta σ H P) (hb : EvP tb σ H P2) (hr : ∀ v u H1, Ex H H1 → P v H1 → P2 u H1 → ∀ Q : VK, (∀ z H2, Ex H1 H2 → P3 z H2 → Q z H2) → r v u H1 Q) : EvP (tOp r ta tb) σ H P3 :=
  fun H1 e Q q => ha H1 e _ fun v H2 e2 p => hb H2 (e.trans e2) _ fun u H3 e3 p2 => hr v u H3 ((e.trans e2).trans e3) (m v H2 H3 e3 p) p2 Q fun z H4 e4 => q z H4 ((e2.trans e3).trans e4)
theorem ep_if {b : Bool} (h : EvT t σ H b) (h1 : b = true → EvP ta σ H P) (h2 : b = false → EvP tb σ H P) : EvP (tIf t ta tb) σ H P := by
  intro H1 e Q q
  refine h H1 e _ fun H2 e2 => ?_
  cases b with
  | true => exact h1 rfl H2 (e.trans e2) Q fun v H3 e3 p => q v H3 (e2.trans e3) p
  | false => exact h2 rfl H2 (e.trans e2) Q fun v H3 e3 p => q v H3 (e2.trans e3) p
/-- a new tuple, a new list, as some value -/
theorem ep_U {xs : List V} (h : EvU te σ H xs) (hp : ∀ p H1, Ex H H1 → H1 p = some (.tup xs) → P (.ref p) H1) : EvP te σ H P := fun H1 e Q q => h H1 e Q fun p H2 _ e2 hp2 => q _ H2 e2 (hp p H2 (e.trans e2) hp2)
theorem ep_L {xs : List V} (h : EvL te σ H xs) (hp : ∀ p H1, Ex H H1 → H1 p = some (.lst xs) → P (.ref p) H1) : EvP te σ H P := fun H1 e Q q => h H1 e Q fun p H2 _ e2 hp2 => q _ H2 e2 (hp p H2 (e.trans e2) hp2)

/-! ### operators -/
theorem rv_mod {i j : Int} (h : 0 < j) : RV (rI (fun _ j => 0 < j) fun i j => .int (i % j)) (.int i) (.int j) H (.int (i % j)) := rv_I h
theorem rv_fdiv {i j : Int} (h : 0 < j) (h2 : j < 1073741824) : RV (rI CDiv fun i j => .int (i / j)) (.int i) (.int j) H (.int (i / j)) := rv_I ⟨h, h2⟩
theorem rv_mulR {i j : Int} (h : -18446744073709551616 < j) (h2 : j < 18446744073709551616) : RV (rI CMul fun i j => .int (i * j)) (.int i) (.int j) H (.int (i * j)) := rv_I (.inr ⟨h, h2⟩)
theorem rv_mulL {i j : Int} (h : -18446744073709551616 < i) (h2 : i < 18446744073709551616) : RV (rI CMul fun i j => .int (i * j)) (.int i) (.int j) H (.int (i * j)) := rv_I (.inl ⟨h, h2⟩)
theorem rv_pow {i j : Int} (h : CPow i j) : RV (rI CPow fun i j => .int (i ^ j.toNat)) (.int i) (.int j) H (.int (i ^ j.toNat)) := rv_I h
theorem dec_i (a b : Int) : decide (V.int a = V.int b) = decide (a = b) := by
  by_cases h : a = b
  · rw [decide_eq_true h, decide_eq_true (congrArg V.int h)]
  · rw [decide_eq_false h, decide_eq_false (fun z => h (V.int.inj z))]
theorem dec_s (a b : Str) : decide (V.str a = V.str b) = decide (a = b) := by
  by_cases h : a = b
  · rw [decide_eq_true h, decide_eq_true (congrArg V.str h)]
  · rw [decide_eq_false h, decide_eq_false (fun z => h (V.str.inj z))]
theorem dec_b (a b : Bool) : decide (V.bl a = V.bl b) = decide (a = b) := by
  by_cases h : a = b
  · rw [decide_eq_true h, decide_eq_true (congrArg V.bl h)]
  · rw [decide_eq_false h, decide_eq_false (fun z => h (V.bl.inj z))]
theorem rv_eqI {a b : Int} : RV rEq (.int a) (.int b) H (.bl (decide (a = b))) := by
  have := rv_eq (H := H) (x := V.int a) (y := V.int b) rfl
  rwa [dec_i] at this
theorem rv_neI {a b : Int} : RV rNe (.int a) (.int b) H (.bl (decide (a ≠ b))) := by
  have := rv_ne (H := H) (x := V.int a) (y := V.int b) rfl
  rw [dec_i, ← decide_not] at this
  exact this
theorem rv_eqS {a b : Str} : RV rEq (.str a) (.str b) H (.bl (decide (a = b))) := by
  have := rv_eq (H := H) (x := V.str a) (y := V.str b) rfl
  rwa [dec_s] at this
theorem rv_neS {a b : Str} : RV rNe (.str a) (.str b) H (.bl (decide (a ≠ b))) := by
  have := rv_ne (H := H) (x := V.str a) (y := V.str b) rfl
  rw [dec_s, ← decide_not] at this
  exact this
theorem rv_eqBl {a b : Bool} : RV rEq (.bl a) (.bl b) H (.bl (decide (a = b))) := by
  have := rv_eq (H := H) (x := V.bl a) (y := V.bl b) rfl
  rwa [dec_b] at this
/-- a test whose value is known to be a proposition's -/
theorem et_yes : EvT tYes σ H true := fun H1 _ Q q => q H1 (Ex.refl H1)

/-! ### items -/
def at0 (ns : List Int) (i : Int) : Int := ns.getD i.toNat 0
theorem atI_at0 {ns : List Int} {i : Int} (h0 : 0 ≤ i) (h1 : i < (ns.length : Int)) : atI (ns.map V.int) i = some (.int (at0 ns i)) := by
  obtain ⟨j, rfl⟩ := Int.eq_ofNat_of_zero_le h0
  have hj : j < ns.length := by omega
  refine atI_nat ?_
  rw [List.getElem?_map, List.getElem?_eq_getElem hj]
  unfold at0
  rw [List.getD_eq_getElem?_getD, Int.toNat_natCast, List.getElem?_eq_getElem hj]
  rfl
theorem ev_ixL {p : Addr} {xs : List V} {i : Int} (ha : Ev ta σ H (.ref p)) (hb : Ev tb σ H (.int i)) (h : SqL K H p xs) (hx : atI xs i = some v) : Ev (tOp (rIxL K) ta tb) σ H v := ev_op ha hb (rv_ixL h hx)
theorem ev_ixT {p : Addr} {xs : List V} {i : Int} (ha : Ev ta σ H (.ref p)) (hb : Ev tb σ H (.int i)) (h : SqT K H p xs) (hx : atI xs i = some v) : Ev (tOp (rIxT K) ta tb) σ H v := ev_op ha hb (rv_ixT h hx)
theorem ev_ixLI {p : Addr} {ns : List Int} {i : Int} (ha : Ev ta σ H (.ref p)) (hb : Ev tb σ H (.int i)) (h : SqL K H p (ns.map V.int)) (h0 : 0 ≤ i) (h1 : i < (ns.length : Int)) : Ev (tOp (rIxL K) ta tb) σ H (.int (at0 ns i)) :=
  ev_ixL ha hb h (atI_at0 h0 h1)
theorem ev_ixTI {p : Addr} {ns : List Int} {i : Int} (ha : Ev ta σ H (.ref p)) (hb : Ev tb σ H (.int i)) (h : SqT K H p (ns.map V.int)) (h0 : 0 ≤ i) (h1 : i < (ns.length : Int)) : Ev (tOp (rIxT K) ta tb) σ H (.int (at0 ns i)) :=
  ev_ixT ha hb h (atI_at0 h0 h1)
theorem ev_lenL {p : Addr} {xs : List V} (ha : Ev ta σ H (.ref p)) (h : SqL K H p xs) : Ev (tCB (rLenS K) (tCons ta tNil)) σ H (.int (xs.length : Int)) := ev_len ha h
theorem ev_lenT {p : Addr} {xs : List V} (ha : Ev ta σ H (.ref p)) (h : SqT K H p xs) : Ev (tCB (rLenS K) (tCons ta tNil)) σ H (.int (xs.length : Int)) :=
  fun H1 e Q q => ha H1 e _ fun H2 e2 => ⟨p, xs, rfl, .inr (ex_t (e.trans e2) h), q H2 e2⟩
theorem ev_lenLI {p : Addr} {ns : List Int} (ha : Ev ta σ H (.ref p)) (h : SqL K H p (ns.map V.int)) : Ev (tCB (rLenS K) (tCons ta tNil)) σ H (.int (ns.length : Int)) := by
  have := ev_lenL ha h
  rwa [List.length_map] at this
theorem ev_lenTI {p : Addr} {ns : List Int} (ha : Ev ta σ H (.ref p)) (h : SqT K H p (ns.map V.int)) : Ev (tCB (rLenS K) (tCons ta tNil)) σ H (.int (ns.length : Int)) := by
  have := ev_lenT ha h
  rwa [List.length_map] at this
theorem ev_lenLP {n : Nat} {P : Nat → V → Hp → Prop} (ha : EvLP ta σ H n P) : Ev (tCB (rLenS K) (tCons ta tNil)) σ H (.int (n : Int)) :=
  fun H1 e Q q => ha H1 e _ fun p H2 vs _ e2 h2 hl _ => ⟨p, vs, rfl, .inl (sq_of h2), by rw [hl]; exact q H2 e2⟩
theorem ev_sumL {p : Addr} {ns : List Int} (ha : Ev ta σ H (.ref p)) (h : SqL K H p (ns.map V.int)) : Ev (tCB (rSum K) (tCons ta tNil)) σ H (.int ns.sum) :=
  fun H1 e Q q => ha H1 e _ fun H2 e2 => ⟨p, ns, rfl, ex_l (e.trans e2) h, q H2 e2⟩
theorem ev_sumN {ns : List Int} (ha : EvL ta σ H (ns.map V.int)) : Ev (tCB (rSum K) (tCons ta tNil)) σ H (.int ns.sum) :=
  fun H1 e Q q => ha H1 e _ fun p H2 _ e2 h2 => ⟨p, ns, rfl, sq_of h2, q H2 e2⟩
def rMin2 : List V → Hp → VK → Prop := fun xs H Q => ∃ i j, xs = [.int i, .int j] ∧ Q (.int (if j < i then j else i)) H
theorem ev_min2 {i j : Int} (ha : Ev ta σ H (.int i)) (hb : Ev tb σ H (.int j)) : Ev (tCB rMin2 (tCons ta (tCons tb tNil))) σ H (.int (if j < i then j else i)) :=
  fun H1 e Q q => ha H1 e _ fun H2 e2 => hb H2 (e.trans e2) _ fun H3 e3 => ⟨i, j, rfl, q H3 (e2.trans e3)⟩
def rInt1 : List V → Hp → VK → Prop := fun xs H Q => (∃ i, xs = [.int i] ∧ Q (.int i) H) ∨ ∃ k, xs = [.bl k] ∧ Q (.int (if k then 1 else 0)) H
theorem ev_intB {k : Bool} (ha : Ev ta σ H (.bl k)) : Ev (tCB rInt1 (tCons ta tNil)) σ H (.int (if k then 1 else 0)) :=
  fun H1 e Q q => ha H1 e _ fun H2 e2 => .inr ⟨k, rfl, q H2 e2⟩
def rTupS (K : PySem.W.Frag) : List V → Hp → VK → Prop := fun xs H Q => ∃ p ys, xs = [.ref p] ∧ ((SqL K H p ys ∧ ∀ l, H l = none → Q (.ref l) (upd H l (.tup ys))) ∨ (SqT K H p ys ∧ Q (.ref p) H))
theorem eu_tupL {xs : List V} (ha : EvL ta σ H xs) : EvU (tCB (rTupS K) (tCons ta tNil)) σ H xs :=
  fun H1 e Q q => ha H1 e _ fun p H2 hp e2 h2 => ⟨p, xs, rfl, .inl ⟨sq_of h2, fun l hl => q l _ (fresh_back e2 hl) (e2.trans (Ex.new hl)) upd_same⟩⟩
theorem eu_tupV {p : Addr} {xs : List V} (ha : Ev ta σ H (.ref p)) (h : SqL K H p xs) : EvU (tCB (rTupS K) (tCons ta tNil)) σ H xs :=
  fun H1 e Q q => ha H1 e _ fun H2 e2 => ⟨p, xs, rfl, .inl ⟨ex_l (e.trans e2) h, fun l hl => q l _ (fresh_back e2 hl) (e2.trans (Ex.new hl)) upd_same⟩⟩
theorem eu_tupT {p : Addr} {xs : List V} (ha : Ev ta σ H (.ref p)) (h : SqT K H p xs) : Ev (tCB (rTupS K) (tCons ta tNil)) σ H (.ref p) :=
  fun H1 e Q q => ha H1 e _ fun H2 e2 => ⟨p, xs, rfl, .inr ⟨ex_t (e.trans e2) h, q H2 e2⟩⟩
theorem eu_rev {p : Addr} {xs : List V} (ha : Ev ta σ H (.ref p)) (h : SqL K H p xs) : EvU (RT.tTupRev K ta) σ H xs.reverse :=
  fun H1 e Q q => ha H1 e _ fun H2 e2 => ⟨p, xs, rfl, ex_l (e.trans e2) h, fun l hl => q l _ (fresh_back e2 hl) (e2.trans (Ex.new hl)) upd_same⟩
theorem el_listT {p : Addr} {xs : List V} (ha : Ev ta σ H (.ref p)) (h : SqT K H p xs) : EvL (tCB (rListS K) (tCons ta tNil)) σ H xs :=
  fun H1 e Q q => ha H1 e _ fun H2 e2 => ⟨p, xs, rfl, .inr (ex_t (e.trans e2) h), fun l hl => q l _ (fresh_back e2 hl) (e2.trans (Ex.new hl)) upd_same⟩
/-- a tuple made of a list of things -/
def TupP (K : PySem.W.Frag) (n : Nat) (P : Nat → V → Hp → Prop) (v : V) (H : Hp) : Prop := ∃ p vs, v = .ref p ∧ SqT K H p vs ∧ vs.length = n ∧ ∀ (i : Nat) (u : V), vs[i]? = some u → P i u H
theorem ep_tupLP {n : Nat} {P : Nat → V → Hp → Prop} (m : ∀ i, Mono (P i)) (ha : EvLP ta σ H n P) : EvP (tCB (rTupS K) (tCons ta tNil)) σ H (TupP K n P) :=
  fun H1 e Q q => ha H1 e _ fun p H2 vs _ e2 h2 hl hP => ⟨p, vs, rfl, .inl ⟨sq_of h2, fun l hl2 => q _ _ (e2.trans (Ex.new hl2)) ⟨l, vs, rfl, st_of upd_same, hl, fun i u hu => m i u _ _ (Ex.new hl2) (hP i u hu)⟩⟩⟩

/-! ### comprehensions -/
theorem given_all (n : Nat) (v : Nat → V) : given n (fun _ => true) v = (List.range n).map v := by
  unfold given
  rw [List.filter_eq_self.mpr (fun _ _ => rfl)]
theorem el_mapR {ta : TA} {j : Nat} {vs : List Nat} {n : Int} (v : Nat → V) (h : EvA ta σ H [.int n]) (hn : 0 ≤ n ∧ n ≤ 40000) (hw : ∀ x, wipe ((wipe σ vs).set j (some x)) vs = wipe σ vs)
    (he : ∀ (i : Nat), (i : Int) < n → Ev te ((wipe σ vs).set j (some (.int (i : Int)))) H (v i)) : EvL (tLc (iRng1 ta) (gName j) tYes te vs) σ H ((List.range n.toNat).map v) := by
  rw [← given_all]
  exact el_lcR1 _ v h hn hw (fun _ _ _ _ => et_yes) (fun i H1 e hi _ => (he i hi).mono e)
theorem given_map (xs : List V) (f : Nat → Bool) (v : Nat → V) : (given xs.length f v).length ≤ xs.length := given_len _ f v
/-- what stands besides lists -/
def ExI (H H' : Hp) : Prop := ∀ b o, H b = some o → (∀ xs, o ≠ .lst xs) → H' b = some o
theorem ExI.of (e : Ex H H') : ExI H H' := fun b o h _ => e b o h
theorem ExI.refl : ExI H H := fun _ _ h _ => h
theorem ExI.trans {H1 H2 H3 : Hp} (a : ExI H1 H2) (b : ExI H2 H3) : ExI H1 H3 := fun c o h n => b c o (a c o h n) n
theorem ExI.upd {l : Addr} {xs ys : List V} (h : H l = some (.lst xs)) : ExI H (upd H l (.lst ys)) := fun b o hb n => by
  rw [upd_ne (show b ≠ l from fun e => by rw [e, h] at hb; exact n xs (Option.some.inj hb).symm)]
  exact hb
theorem ExI.upd' {l : Addr} {xs ys : List V} (e : ExI H H') (h : H' l = some (.lst xs)) : ExI H (L2.upd H' l (.lst ys)) := e.trans (ExI.upd h)
def Imm (P : V → Hp → Prop) : Prop := ∀ v H H', ExI H H' → P v H → P v H'
theorem Imm.mono {P : V → Hp → Prop} (m : Imm P) : Mono P := fun v H H' e p => m v H H' (ExI.of e) p
theorem ExI.rd {a : Addr} {u : HO} (e : ExI H H') (h : Rd H a u) (n : ∀ xs, u ≠ .lst xs) : Rd H' a u := by
  rcases h with h | ⟨o, h⟩
  · exact .inl (e a u h n)
  · exact .inr ⟨o, e a _ h (by intro xs z; cases z)⟩
theorem ExI.seqT {a : Addr} {xs : List V} (e : ExI H H') (h : SqT K H a xs) : SqT K H' a xs := by
  rcases h with h | h
  · exact .inl (e.rd h (by intro ys z; cases z))
  · exact .inr h
def CwP (H : Hp) (P : Nat → V → Hp → Prop) (Dl : Addr) (i : Nat) (H' : Hp) : Prop := H Dl = none ∧ Ex H H' ∧ ∃ vs, H' Dl = some (.lst vs) ∧ vs.length = i ∧ ∀ (k : Nat) (v : V), vs[k]? = some v → P k v H'
theorem cwP_turn {H H' : Hp} {P : Nat → V → Hp → Prop} (m : ∀ i, Imm (P i)) {Dl : Addr} {i : Nat} {σ2 : L2.St} (p : CwP H P Dl i H') (hi : i < 50000) (he : EvP te σ2 H (P i)) :
    te σ2 H' fun y H4 => ∃ acc, H4 Dl = some (.lst acc) ∧ acc.length < sizeLine ∧ CwP H P Dl (i + 1) (upd H4 Dl (.lst (acc ++ [y]))) := by
  obtain ⟨p1, p2, vs, p3, p4, p5⟩ := p
  refine he H' p2 _ fun y H4 e4 hy => ⟨vs, e4 Dl _ p3, sz_lt (by omega), p1, Ex.mut (p2.trans e4) p1, vs ++ [y], upd_same, by rw [List.length_append, p4]; rfl, fun k v hk => ?_⟩
  have hu : ExI H4 (upd H4 Dl (.lst (vs ++ [y]))) := ExI.upd (e4 Dl _ p3)
  rcases Nat.lt_or_ge k vs.length with h | h
  · rw [List.getElem?_append_left h] at hk
    exact m k v _ _ hu (m k v _ _ (ExI.of e4) (p5 k v hk))
  · rw [List.getElem?_append_right h] at hk
    have hk0 : k = i := by
      have := (List.getElem?_eq_some_iff.mp hk).1
      simp only [List.length_singleton] at this
      omega
    subst hk0
    have hv : v = y := by
      rw [p4, Nat.sub_self] at hk
      exact (Option.some.inj hk).symm
    subst hv
    exact m k v _ _ hu hy
theorem elp_R {ta : TA} {j : Nat} {vs : List Nat} {n : Int} {P : Nat → V → Hp → Prop} (m : ∀ i, Imm (P i)) (h : EvA ta σ H [.int n]) (hn : 0 ≤ n ∧ n ≤ 40000) (hw : ∀ x, wipe ((wipe σ vs).set j (some x)) vs = wipe σ vs)
    (he : ∀ (i : Nat), (i : Int) < n → EvP te ((wipe σ vs).set j (some (.int (i : Int)))) H (P i)) : EvLP (tLc (iRng1 ta) (gName j) tYes te vs) σ H n.toNat P := fun H0 e Q q => h H0 e _ fun H1 e1 => ⟨n, rfl, by omega, by omega, fun Dl hD =>
  lc_range (lo := 0) (n := n.toNat) (CwP H1 P Dl) ⟨hD, Ex.new hD, [], upd_same, rfl, fun k v hk => by cases hk⟩ (fun i H' hi p => by
    have e0 : (0 : Int) + (i : Int) = (i : Int) := Int.zero_add _
    show wipe ((wipe σ vs).set j (some (.int ((0 : Int) + (i : Int))))) vs = wipe σ vs ∧ te ((wipe σ vs).set j (some (.int ((0 : Int) + (i : Int))))) H' fun y H4 => ∃ acc, H4 Dl = some (.lst acc) ∧ acc.length < sizeLine ∧ CwP H1 P Dl (i + 1) (upd H4 Dl (.lst (acc ++ [y])))
    rw [e0]
    exact ⟨hw _, cwP_turn m p (by omega) ((he i (by omega)).mono (e.trans e1))⟩) (fun H' ⟨p1, p2, ws, p3, p4, p5⟩ => q Dl H' ws (fresh_back e1 p1) (e1.trans p2) p3 p4 p5)⟩
theorem elp_T {a : Addr} {xs : List V} {tl : TE} {j : Nat} {vs : List Nat} {P : Nat → V → Hp → Prop} (m : ∀ i, Imm (P i)) (h : Ev tl σ H (.ref a)) (hx : SqT K H a xs) (hz : xs.length ≤ 40000) (hw : ∀ x, wipe ((wipe σ vs).set j (some x)) vs = wipe σ vs)
    (he : ∀ (i : Nat) (x : V), xs[i]? = some x → EvP te ((wipe σ vs).set j (some x)) H (P i)) : EvLP (tLc (iTup K tl) (gName j) tYes te vs) σ H xs.length P := fun H0 e Q q => h H0 e _ fun H1 e1 => ⟨a, rfl, ⟨xs, ex_t (e.trans e1) hx⟩, fun Dl hD =>
  lc_tup (xs := xs) (CwP H1 P Dl) ⟨hD, Ex.new hD, [], upd_same, rfl, fun k v hk => by cases hk⟩ (fun i H' _ p => ex_t ((e.trans e1).trans p.2.1) hx)
    (fun i x H' hi p => ⟨hw x, cwP_turn m p (by have := (List.getElem?_eq_some_iff.mp hi).1; omega) ((he i x hi).mono (e.trans e1))⟩) (fun H' ⟨p1, p2, ws, p3, p4, p5⟩ => q Dl H' ws (fresh_back e1 p1) (e1.trans p2) p3 p4 p5)⟩
theorem elp_L {a : Addr} {xs : List V} {tl : TE} {j : Nat} {vs : List Nat} {P : Nat → V → Hp → Prop} (m : ∀ i, Imm (P i)) (h : Ev tl σ H (.ref a)) (hx : SqL K H a xs) (hz : xs.length ≤ 40000) (hw : ∀ x, wipe ((wipe σ vs).set j (some x)) vs = wipe σ vs)
    (he : ∀ (i : Nat) (x : V), xs[i]? = some x → EvP te ((wipe σ vs).set j (some x)) H (P i)) : EvLP (tLc (iList K tl) (gName j) tYes te vs) σ H xs.length P := fun H0 e Q q => h H0 e _ fun H1 e1 => ⟨a, rfl, ⟨xs, ex_l (e.trans e1) hx⟩, fun Dl hD =>
  lc_list (xs := xs) (CwP H1 P Dl) ⟨hD, Ex.new hD, [], upd_same, rfl, fun k v hk => by cases hk⟩ (fun i H' _ p => ex_l ((e.trans e1).trans p.2.1) hx)
    (fun i x H' hi p => ⟨hw x, cwP_turn m p (by have := (List.getElem?_eq_some_iff.mp hi).1; omega) ((he i x hi).mono (e.trans e1))⟩) (fun H' ⟨p1, p2, ws, p3, p4, p5⟩ => q Dl H' ws (fresh_back e1 p1) (e1.trans p2) p3 p4 p5)⟩
/-- values over a tuple, with a test -/
theorem el_lcT {a : Addr} {xs : List V} {tl : TE} {j : Nat} {vs : List Nat} (f : Nat → Bool) (v : Nat → V) (h : Ev tl σ H (.ref a)) (hx : SqT K H a xs) (hz : xs.length ≤ 40000) (hw : ∀ x, wipe ((wipe σ vs).set j (some x)) vs = wipe σ vs)
    (ht : ∀ (i : Nat) (x : V) H1, Ex H H1 → xs[i]? = some x → EvT t ((wipe σ vs).set j (some x)) H1 (f i)) (he : ∀ (i : Nat) (x : V) H1, Ex H H1 → xs[i]? = some x → f i = true → Ev te ((wipe σ vs).set j (some x)) H1 (v i)) :
    EvL (tLc (iTup K tl) (gName j) t te vs) σ H (given xs.length f v) := fun H0 e Q q => h H0 e _ fun H1 e1 => ⟨a, rfl, ⟨xs, ex_t (e.trans e1) hx⟩, fun Dl hD =>
  lc_tup (xs := xs) (Cw H1 f v Dl) ⟨hD, Ex.new hD, upd_same⟩ (fun i H' _ p => ex_t ((e.trans e1).trans p.2.1) hx) (fun i x H' hi p => ⟨hw x, cw_turn p (by have := (List.getElem?_eq_some_iff.mp hi).1; omega) (ht i x H1 (e.trans e1) hi) (fun hf => he i x H1 (e.trans e1) hi hf)⟩)
    (fun H' p => q Dl H' (fresh_back e1 p.1) (e1.trans p.2.1) p.2.2)⟩
theorem given_none (n : Nat) (v : Nat → V) : given n (fun _ => false) v = [] := by
  unfold given
  rw [List.filter_eq_nil_iff.mpr (fun _ _ => by simp)]
  rfl
theorem map_at0 (ns : List Int) (g : Int → V) : (List.range ns.length).map (fun i : Nat => g (at0 ns (i : Int))) = ns.map g := by
  apply List.ext_getElem
  · simp
  · intro i h1 h2
    simp only [List.length_map] at h2
    simp [at0, h2]
theorem at0_of {ns : List Int} {i : Nat} {x : V} (h : (ns.map V.int)[i]? = some x) : x = .int (at0 ns (i : Int)) ∧ i < ns.length := by
  have hl := (List.getElem?_eq_some_iff.mp h).1
  rw [List.length_map] at hl
  rw [List.getElem?_map, List.getElem?_eq_getElem hl] at h
  refine ⟨?_, hl⟩
  rw [← Option.some.inj h]
  unfold at0
  rw [List.getD_eq_getElem?_getD, Int.toNat_natCast, List.getElem?_eq_getElem hl]
  rfl
theorem el_mapT {a : Addr} {ns : List Int} {tl : TE} {j : Nat} {vs : List Nat} (g : Int → V) (h : Ev tl σ H (.ref a)) (hx : SqT K H a (ns.map V.int)) (hz : ns.length ≤ 40000) (hw : ∀ x, wipe ((wipe σ vs).set j (some x)) vs = wipe σ vs)
    (he : ∀ (x : Int), x ∈ ns → Ev te ((wipe σ vs).set j (some (.int x))) H (g x)) : EvL (tLc (iTup K tl) (gName j) tYes te vs) σ H (ns.map g) := by
  have := el_lcT (t := tYes) (te := te) (fun _ => true) (fun i : Nat => g (at0 ns (i : Int))) h hx (by rw [List.length_map]; exact hz) hw (fun _ _ _ _ _ => et_yes) (fun i x H1 e hi _ => by
    obtain ⟨rfl, hl⟩ := at0_of hi
    refine (he _ ?_).mono e
    unfold at0
    rw [List.getD_eq_getElem?_getD, Int.toNat_natCast, List.getElem?_eq_getElem hl]
    exact List.getElem_mem hl)
  rwa [given_all, List.length_map, map_at0] at this
theorem el_mapL {a : Addr} {ns : List Int} {tl : TE} {j : Nat} {vs : List Nat} (g : Int → V) (h : Ev tl σ H (.ref a)) (hx : SqL K H a (ns.map V.int)) (hz : ns.length ≤ 40000) (hw : ∀ x, wipe ((wipe σ vs).set j (some x)) vs = wipe σ vs)
    (he : ∀ (x : Int), x ∈ ns → Ev te ((wipe σ vs).set j (some (.int x))) H (g x)) : EvL (tLc (iList K tl) (gName j) tYes te vs) σ H (ns.map g) := by
  have := el_lcL (t := tYes) (te := te) (fun _ => true) (fun i : Nat => g (at0 ns (i : Int))) h hx (by rw [List.length_map]; exact hz) hw (fun _ _ _ _ _ => et_yes) (fun i x H1 e hi _ => by
    obtain ⟨rfl, hl⟩ := at0_of hi
    refine (he _ ?_).mono e
    unfold at0
    rw [List.getD_eq_getElem?_getD, Int.toNat_natCast, List.getElem?_eq_getElem hl]
    exact List.getElem_mem hl)
  rwa [given_all, List.length_map, map_at0] at this
end

/-! ### statements over every further heap -/
def Go (t : TS) (D : Ends) (σ : L2.St) (H : Hp) : Prop := ∀ H1, Ex H H1 → t D σ H1
def GoN (D : Ends) (σ : L2.St) (H : Hp) : Prop := ∀ H1, Ex H H1 → D.nx σ H1
section
variable {K : PySem.W.Frag} {σ : L2.St} {H H' : Hp} {ta tb te tx : TE} {t u : TT} {x y z v : V} {r : R2} {P : V → Hp → Prop} {D : Ends} {tu tw tz : TS} {g : TG}
theorem Go.at (h : Go tu D σ H) : tu D σ H := h H (Ex.refl H)
theorem Go.mono (e : Ex H H') (h : Go tu D σ H) : Go tu D σ H' := fun H1 e1 => h H1 (e.trans e1)
theorem go_next (h : GoN D σ H) : Go tNext D σ H := h
theorem gn_of (h : ∀ H1, Ex H H1 → D.nx σ H1) : GoN D σ H := h
theorem go_asg {i : Nat} (h : Ev te σ H v) (k : Go tz D (σ.set i (some v)) H) : Go (tSeq (tAsg te (gName i)) tz) D σ H := fun H1 e => q_asg (h.mono e) fun H2 e2 => k H2 (e.trans e2)
theorem gl_asg {i : Nat} (h : Ev te σ H v) (k : GoN D (σ.set i (some v)) H) : Go (tAsg te (gName i)) D σ H := fun H1 e => s_asg (h.mono e) fun H2 e2 => k H2 (e.trans e2)
theorem go_asgL {i : Nat} {xs : List V} (h : EvL te σ H xs) (k : ∀ p H1, H p = none → Ex H H1 → H1 p = some (.lst xs) → Go tz D (σ.set i (some (.ref p))) H1) : Go (tSeq (tAsg te (gName i)) tz) D σ H :=
  fun H1 e => q_asgL (h.mono e) fun p H2 hp e2 h2 => k p H2 (fresh_back e hp) (e.trans e2) h2 H2 (Ex.refl H2)
theorem gl_asgL {i : Nat} {xs : List V} (h : EvL te σ H xs) (k : ∀ p H1, H p = none → Ex H H1 → H1 p = some (.lst xs) → GoN D (σ.set i (some (.ref p))) H1) : Go (tAsg te (gName i)) D σ H :=
  fun H1 e => s_asgL (h.mono e) fun p H2 hp e2 h2 => k p H2 (fresh_back e hp) (e.trans e2) h2 H2 (Ex.refl H2)
theorem go_asgU {i : Nat} {xs : List V} (h : EvU te σ H xs) (k : ∀ p H1, H p = none → Ex H H1 → H1 p = some (.tup xs) → Go tz D (σ.set i (some (.ref p))) H1) : Go (tSeq (tAsg te (gName i)) tz) D σ H :=
  fun H1 e => q_asgU (EvU.mono e h) fun p H2 hp e2 h2 => k p H2 (fresh_back e hp) (e.trans e2) h2 H2 (Ex.refl H2)
theorem gl_asgU {i : Nat} {xs : List V} (h : EvU te σ H xs) (k : ∀ p H1, H p = none → Ex H H1 → H1 p = some (.tup xs) → GoN D (σ.set i (some (.ref p))) H1) : Go (tAsg te (gName i)) D σ H :=
  fun H1 e => s_asgU (EvU.mono e h) fun p H2 hp e2 h2 => k p H2 (fresh_back e hp) (e.trans e2) h2 H2 (Ex.refl H2)
theorem go_asgP {i : Nat} (h : EvP te σ H P) (k : ∀ v H1, Ex H H1 → P v H1 → Go tz D (σ.set i (some v)) H1) : Go (tSeq (tAsg te (gName i)) tz) D σ H :=
  fun H1 e => h H1 e _ fun v H2 e2 p => k v H2 (e.trans e2) p H2 (Ex.refl H2)
theorem gl_asgP {i : Nat} (h : EvP te σ H P) (k : ∀ v H1, Ex H H1 → P v H1 → GoN D (σ.set i (some v)) H1) : Go (tAsg te (gName i)) D σ H :=
  fun H1 e => h H1 e _ fun v H2 e2 p => k v H2 (e.trans e2) p H2 (Ex.refl H2)
theorem go_if {b : Bool} (h : EvT t σ H b) (h1 : b = true → Go tu { D with nx := tz D } σ H) (h2 : b = false → Go tw { D with nx := tz D } σ H) : Go (tSeq (tIfS t tu tw) tz) D σ H :=
  fun H1 e => q_if (h.mono e) (fun hb H2 e2 => h1 hb H2 (e.trans e2)) (fun hb H2 e2 => h2 hb H2 (e.trans e2))
theorem gl_if {b : Bool} (h : EvT t σ H b) (h1 : b = true → Go tu D σ H) (h2 : b = false → Go tw D σ H) : Go (tIfS t tu tw) D σ H :=
  fun H1 e => s_if (h.mono e) (fun hb H2 e2 => h1 hb H2 (e.trans e2)) (fun hb H2 e2 => h2 hb H2 (e.trans e2))
/-- if, its test a proposition's -/
theorem go_ifd {p : Prop} [Decidable p] (h : EvT t σ H (decide p)) (h1 : p → Go tu { D with nx := tz D } σ H) (h2 : ¬ p → Go tw { D with nx := tz D } σ H) : Go (tSeq (tIfS t tu tw) tz) D σ H :=
  go_if h (fun e => h1 (of_decide_eq_true e)) (fun e => h2 (of_decide_eq_false e))
theorem gl_ifd {p : Prop} [Decidable p] (h : EvT t σ H (decide p)) (h1 : p → Go tu D σ H) (h2 : ¬ p → Go tw D σ H) : Go (tIfS t tu tw) D σ H :=
  gl_if h (fun e => h1 (of_decide_eq_true e)) (fun e => h2 (of_decide_eq_false e))
theorem go_ret (h : Ev te σ H v) (k : ∀ H1, Ex H H1 → D.rt v H1) : Go (tRet te) D σ H := fun H1 e => s_ret (h.mono e) fun H2 e2 => k H2 (e.trans e2)
theorem go_retL {xs : List V} (h : EvL te σ H xs) (k : ∀ p H1, H p = none → Ex H H1 → H1 p = some (.lst xs) → D.rt (.ref p) H1) : Go (tRet te) D σ H := fun H1 e => s_retL (h.mono e) fun p H2 hp e2 h2 => k p H2 (fresh_back e hp) (e.trans e2) h2
theorem go_retU {xs : List V} (h : EvU te σ H xs) (k : ∀ p H1, H p = none → Ex H H1 → H1 p = some (.tup xs) → D.rt (.ref p) H1) : Go (tRet te) D σ H := fun H1 e => s_retU (EvU.mono e h) fun p H2 hp e2 h2 => k p H2 (fresh_back e hp) (e.trans e2) h2
theorem go_retP (h : EvP te σ H P) (k : ∀ v H1, Ex H H1 → P v H1 → D.rt v H1) : Go (tRet te) D σ H := fun H1 e => h H1 e _ fun v H2 e2 p => k v H2 (e.trans e2) p
theorem go_drop (h : Ev te σ H v) (k : Go tz D σ H) : Go (tSeq (tDrop te) tz) D σ H := fun H1 e => q_drop (h.mono e) fun H2 e2 => k H2 (e.trans e2)
theorem go_app {l : Addr} {xs : List V} (hl : H l = some (.lst xs)) (ha : Ev ta σ H (.ref l)) (h : Ev te σ H v) (hz : xs.length < 100000) (k : ∀ H1, Ex H H1 → Go tz D σ (upd H1 l (.lst (xs ++ [v])))) :
    Go (tSeq (tDrop (tBM K "list" rAppend ta (tCons te tNil))) tz) D σ H := fun H1 e => q_app (e l _ hl) (ha.mono e) (h.mono e) hz fun H2 e2 => k H2 (e.trans e2) _ (Ex.refl _)
theorem gl_app {l : Addr} {xs : List V} (hl : H l = some (.lst xs)) (ha : Ev ta σ H (.ref l)) (h : Ev te σ H v) (hz : xs.length < 100000) (k : ∀ H1, Ex H H1 → GoN D σ (upd H1 l (.lst (xs ++ [v])))) :
    Go (tDrop (tBM K "list" rAppend ta (tCons te tNil))) D σ H := fun H1 e => s_app (e l _ hl) (ha.mono e) (h.mono e) hz fun H2 e2 => k H2 (e.trans e2) _ (Ex.refl _)
theorem gl_appP {l : Addr} {xs : List V} (hl : H l = some (.lst xs)) (ha : Ev ta σ H (.ref l)) (h : EvP te σ H P) (hz : xs.length < 100000) (k : ∀ v H1, Ex H H1 → P v H1 → GoN D σ (upd H1 l (.lst (xs ++ [v])))) :
    Go (tDrop (tBM K "list" rAppend ta (tCons te tNil))) D σ H := fun H1 e => ha H1 e _ fun H2 e2 => ⟨.inl ⟨rfl, xs, sq_of (e2 l _ (e l _ hl))⟩, h H2 (e.trans e2) _ fun v H3 e3 p =>
      ⟨l, xs, v, rfl, rfl, e3 l _ (e2 l _ (e l _ hl)), sz_lt hz, k v H3 ((e.trans e2).trans e3) p _ (Ex.refl _)⟩⟩
theorem go_appP {l : Addr} {xs : List V} (hl : H l = some (.lst xs)) (ha : Ev ta σ H (.ref l)) (h : EvP te σ H P) (hz : xs.length < 100000) (k : ∀ v H1, Ex H H1 → P v H1 → Go tz D σ (upd H1 l (.lst (xs ++ [v])))) :
    Go (tSeq (tDrop (tBM K "list" rAppend ta (tCons te tNil))) tz) D σ H := gl_appP (D := { D with nx := tz D }) hl ha h hz k
theorem go_setL {l : Addr} {xs : List V} {i : Int} (hl : H l = some (.lst xs)) (h : Ev te σ H v) (ho : Ev ta σ H (.ref l)) (hi : Ev tb σ H (.int i)) (h0 : 0 ≤ i) (h1 : i < (xs.length : Int)) (k : ∀ H1, Ex H H1 → Go tz D σ (upd H1 l (.lst (xs.set i.toNat v)))) :
    Go (tSeq (tAsg te (gSub ta tb rSetL)) tz) D σ H := by
  obtain ⟨j, rfl⟩ := Int.eq_ofNat_of_zero_le h0
  exact fun H1 e => q_setL (e l _ hl) (h.mono e) (ho.mono e) (hi.mono e) (by omega) fun H2 e2 => k H2 (e.trans e2) _ (Ex.refl _)
theorem gl_setL {l : Addr} {xs : List V} {i : Int} (hl : H l = some (.lst xs)) (h : Ev te σ H v) (ho : Ev ta σ H (.ref l)) (hi : Ev tb σ H (.int i)) (h0 : 0 ≤ i) (h1 : i < (xs.length : Int)) (k : ∀ H1, Ex H H1 → GoN D σ (upd H1 l (.lst (xs.set i.toNat v)))) :
    Go (tAsg te (gSub ta tb rSetL)) D σ H := by
  obtain ⟨j, rfl⟩ := Int.eq_ofNat_of_zero_le h0
  exact fun H1 e => s_setL (e l _ hl) (h.mono e) (ho.mono e) (hi.mono e) (by omega) fun H2 e2 => k H2 (e.trans e2) _ (Ex.refl _)
theorem go_forR1 {ta : TA} {j : Nat} {n : Int} (h : EvA ta σ H [.int n]) (hn : 0 ≤ n ∧ n ≤ 100000) (Pv : Nat → L2.St → Hp → Prop) (h0 : ∀ H1, Ex H H1 → Pv 0 σ H1)
    (hs : ∀ (i : Nat) σ' H', (i : Int) < n → Pv i σ' H' → Go tu { D with nx := Pv (i + 1), ct := Pv (i + 1), bk := tz D } (σ'.set j (some (.int (i : Int)))) H') (hd : ∀ σ' H', Pv n.toNat σ' H' → Go tz D σ' H') : Go (tSeq (tFor (iRng1 ta) (gName j) tu) tz) D σ H :=
  fun H1 e => q_forR1 (h.mono e) hn Pv (fun H2 e2 => h0 H2 (e.trans e2)) (fun i σ' H' hi p => (hs i σ' H' hi p).at) (fun σ' H' p => (hd σ' H' p).at)
theorem gl_forR1 {ta : TA} {j : Nat} {n : Int} (h : EvA ta σ H [.int n]) (hn : 0 ≤ n ∧ n ≤ 100000) (Pv : Nat → L2.St → Hp → Prop) (h0 : ∀ H1, Ex H H1 → Pv 0 σ H1)
    (hs : ∀ (i : Nat) σ' H', (i : Int) < n → Pv i σ' H' → Go tu { D with nx := Pv (i + 1), ct := Pv (i + 1), bk := D.nx } (σ'.set j (some (.int (i : Int)))) H') (hd : ∀ σ' H', Pv n.toNat σ' H' → GoN D σ' H') : Go (tFor (iRng1 ta) (gName j) tu) D σ H :=
  fun H1 e => s_forR1 (h.mono e) hn Pv (fun H2 e2 => h0 H2 (e.trans e2)) (fun i σ' H' hi p => (hs i σ' H' hi p).at) (fun σ' H' p => hd σ' H' p H' (Ex.refl H'))
theorem go_forT {a : Addr} {xs : List V} {tl : TE} {j : Nat} (h : Ev tl σ H (.ref a)) (hx : SqT K H a xs) (Pv : Nat → L2.St → Hp → Prop) (h0 : ∀ H1, Ex H H1 → Pv 0 σ H1) (hl : ∀ i σ' H', i ≤ xs.length → Pv i σ' H' → SqT K H' a xs)
    (hs : ∀ i x σ' H', xs[i]? = some x → Pv i σ' H' → Go tu { D with nx := Pv (i + 1), ct := Pv (i + 1), bk := tz D } (σ'.set j (some x)) H') (hd : ∀ σ' H', Pv xs.length σ' H' → Go tz D σ' H') : Go (tSeq (tFor (iTup K tl) (gName j) tu) tz) D σ H :=
  fun H1 e => q_forT (h.mono e) (ex_t e hx) Pv (fun H2 e2 => h0 H2 (e.trans e2)) hl (fun i x σ' H' hi p => (hs i x σ' H' hi p).at) (fun σ' H' p => (hd σ' H' p).at)
theorem go_forL {a : Addr} {xs : List V} {tl : TE} {j : Nat} (h : Ev tl σ H (.ref a)) (hx : SqL K H a xs) (Pv : Nat → L2.St → Hp → Prop) (h0 : ∀ H1, Ex H H1 → Pv 0 σ H1) (hl : ∀ i σ' H', i ≤ xs.length → Pv i σ' H' → SqL K H' a xs)
    (hs : ∀ i x σ' H', xs[i]? = some x → Pv i σ' H' → Go tu { D with nx := Pv (i + 1), ct := Pv (i + 1), bk := tz D } (σ'.set j (some x)) H') (hd : ∀ σ' H', Pv xs.length σ' H' → Go tz D σ' H') : Go (tSeq (tFor (iList K tl) (gName j) tu) tz) D σ H :=
  fun H1 e => q_forL (h.mono e) (ex_l e hx) Pv (fun H2 e2 => h0 H2 (e.trans e2)) hl (fun i x σ' H' hi p => (hs i x σ' H' hi p).at) (fun σ' H' p => (hd σ' H' p).at)
/-- the loop inside another loop: the last statement of a body -/
theorem gl_forT {a : Addr} {xs : List V} {tl : TE} {j : Nat} (h : Ev tl σ H (.ref a)) (hx : SqT K H a xs) (Pv : Nat → L2.St → Hp → Prop) (h0 : ∀ H1, Ex H H1 → Pv 0 σ H1) (hl : ∀ i σ' H', i ≤ xs.length → Pv i σ' H' → SqT K H' a xs)
    (hs : ∀ i x σ' H', xs[i]? = some x → Pv i σ' H' → Go tu { D with nx := Pv (i + 1), ct := Pv (i + 1), bk := D.nx } (σ'.set j (some x)) H') (hd : ∀ σ' H', Pv xs.length σ' H' → GoN D σ' H') : Go (tFor (iTup K tl) (gName j) tu) D σ H :=
  fun H1 e => s_forT (h.mono e) (ex_t e hx) Pv (fun H2 e2 => h0 H2 (e.trans e2)) hl (fun i x σ' H' hi p => (hs i x σ' H' hi p).at) (fun σ' H' p => hd σ' H' p H' (Ex.refl H'))
theorem go_while (W : Nat → L2.St → Hp → Prop) (m0 : Nat) (h0 : ∀ H1, Ex H H1 → W m0 σ H1)
    (hs : ∀ m σ' H', W m σ' H' → ∃ b, EvT t σ' H' b ∧ (b = true → ∃ N : L2.St → Hp → Prop, (∀ σ2 H2, N σ2 H2 → ∃ m', m' < m ∧ W m' σ2 H2) ∧ Go tu { D with nx := N, ct := N, bk := tz D } σ' H') ∧ (b = false → Go tz D σ' H')) : Go (tSeq (tWhile t tu) tz) D σ H :=
  fun H1 e => q_while W m0 (h0 H1 e) fun m σ' H' hw => by
    obtain ⟨b, hb, h1, h2⟩ := hs m σ' H' hw
    exact ⟨b, hb, fun e H2 e2 => by obtain ⟨N, hN, k⟩ := h1 e; exact ⟨N, hN, k H2 e2⟩, fun e H2 e2 => h2 e H2 e2⟩
end

/-! ### boards -/
def rowOf (w : Nat) (f : Int → Int) : List Int := (List.range w).map fun x : Nat => f (x : Int)
def mk (h w : Nat) (f : Int → Int → Int) : List (List Int) := (List.range h).map fun y : Nat => rowOf w (f (y : Int))
def RwV (K : PySem.W.Frag) (r : List Int) (v : V) (H : Hp) : Prop := ∃ a, v = .ref a ∧ SqT K H a (r.map V.int)
def BdV (K : PySem.W.Frag) (B : List (List Int)) (v : V) (H : Hp) : Prop := ∃ p vs, v = .ref p ∧ SqT K H p vs ∧ vs.length = B.length ∧ ∀ (i : Nat) (u : V) (r : List Int), vs[i]? = some u → B[i]? = some r → RwV K r u H
section
variable {K : PySem.W.Frag} {σ : L2.St} {H H' : Hp} {ta tb te tx ty : TE} {t u : TT} {x y z v : V} {B C : List (List Int)}
theorem rw_imm (r : List Int) : Imm (RwV K r) := fun v H H' e ⟨a, h, hs⟩ => ⟨a, h, e.seqT hs⟩
theorem bd_imm (B : List (List Int)) : Imm (BdV K B) := fun v H H' e ⟨p, vs, h, hs, hl, hr⟩ => ⟨p, vs, h, e.seqT hs, hl, fun i u r h1 h2 => rw_imm r u H H' e (hr i u r h1 h2)⟩
theorem BdV.up (e : Ex H H') (h : BdV K B v H) : BdV K B v H' := bd_imm B v H H' (ExI.of e) h
theorem len_mk (h w : Nat) (f : Int → Int → Int) : (mk h w f).length = h := by unfold mk; simp
theorem len_rowOf (w : Nat) (f : Int → Int) : (rowOf w f).length = w := by unfold rowOf; simp
theorem mk_get {h w : Nat} {f : Int → Int → Int} {i : Nat} (hi : i < h) : (mk h w f)[i]? = some (rowOf w (f (i : Int))) := by
  unfold mk
  rw [List.getElem?_map, List.getElem?_range hi]
  rfl
theorem at0_rowOf {w : Nat} {f : Int → Int} {i : Int} (h0 : 0 ≤ i) (h1 : i < (w : Int)) : at0 (rowOf w f) i = f i := by
  obtain ⟨j, rfl⟩ := Int.eq_ofNat_of_zero_le h0
  have hj : j < w := by omega
  unfold at0 rowOf
  rw [List.getD_eq_getElem?_getD, List.getElem?_map, Int.toNat_natCast, List.getElem?_range hj]
  rfl
theorem bd_of {h w : Nat} {f : Int → Int → Int} (hp : TupP K h (fun i => RwV K (rowOf w (f (i : Int)))) v H) : BdV K (mk h w f) v H := by
  obtain ⟨p, vs, rfl, hs, hl, hr⟩ := hp
  refine ⟨p, vs, rfl, hs, by rw [len_mk, hl], fun i u r h1 h2 => ?_⟩
  have hi : i < h := by rw [← hl]; exact (List.getElem?_eq_some_iff.mp h1).1
  rw [mk_get hi] at h2
  rw [← Option.some.inj h2]
  exact hr i u h1
theorem bd_row {i : Nat} {r : List Int} {p : Addr} {vs : List V} (hl : vs.length = B.length) (hr : ∀ (i : Nat) (u : V) (r : List Int), vs[i]? = some u → B[i]? = some r → RwV K r u H) (h : B[i]? = some r) : ∃ a, vs[i]? = some (.ref a) ∧ SqT K H a (r.map V.int) := by
  have hi : i < vs.length := by rw [hl]; exact (List.getElem?_eq_some_iff.mp h).1
  obtain ⟨a, e, hs⟩ := hr i vs[i] r (List.getElem?_eq_getElem hi) h
  exact ⟨a, by rw [List.getElem?_eq_getElem hi, e], hs⟩
/-- len(board), board[y], board[y][x] -/
theorem ev_lenB (ha : Ev ta σ H v) (hb : BdV K B v H) : Ev (tCB (rLenS K) (tCons ta tNil)) σ H (.int (B.length : Int)) := by
  obtain ⟨p, vs, rfl, hs, hl, _⟩ := hb
  rw [← hl]
  exact ev_lenT ha hs
theorem ev_lenM {h w : Nat} {f : Int → Int → Int} (ha : Ev ta σ H v) (hb : BdV K (mk h w f) v H) : Ev (tCB (rLenS K) (tCons ta tNil)) σ H (.int (h : Int)) := by
  have := ev_lenB ha hb
  rwa [len_mk] at this
theorem ep_row {h w : Nat} {f : Int → Int → Int} {i : Int} (ha : Ev ta σ H v) (hi : Ev ty σ H (.int i)) (hb : BdV K (mk h w f) v H) (h0 : 0 ≤ i) (h1 : i < (h : Int)) :
    ∃ a, Ev (tOp (rIxT K) ta ty) σ H (.ref a) ∧ SqT K H a ((rowOf w (f i)).map V.int) := by
  obtain ⟨j, rfl⟩ := Int.eq_ofNat_of_zero_le h0
  obtain ⟨p, vs, rfl, hs, hl, hr⟩ := hb
  obtain ⟨a, e, q⟩ := bd_row (p := p) hl hr (mk_get (w := w) (f := f) (show j < h by omega))
  exact ⟨a, ev_ixT ha hi hs (atI_nat e), q⟩
theorem ev_cell {h w : Nat} {f : Int → Int → Int} {i j : Int} (ha : Ev ta σ H v) (hy : Ev ty σ H (.int i)) (hx : Ev tx σ H (.int j)) (hb : BdV K (mk h w f) v H) (h0 : 0 ≤ i) (h1 : i < (h : Int)) (h2 : 0 ≤ j) (h3 : j < (w : Int)) :
    Ev (tOp (rIxT K) (tOp (rIxT K) ta ty) tx) σ H (.int (f i j)) := by
  obtain ⟨a, hr, hs⟩ := ep_row ha hy hb h0 h1
  have := ev_ixTI hr hx hs h2 (by rw [len_rowOf]; exact h3)
  rwa [at0_rowOf h2 h3] at this
/-- len(board[0]) -/
theorem ev_wide {h w : Nat} {f : Int → Int → Int} (h0 : 0 < h) (ha : Ev ta σ H v) (hi : Ev ty σ H (.int 0)) (hb : BdV K (mk h w f) v H) : Ev (tCB (rLenS K) (tCons (tOp (rIxT K) ta ty) tNil)) σ H (.int (w : Int)) := by
  obtain ⟨a, hr, hs⟩ := ep_row ha hi hb (Int.le_refl 0) (by omega)
  have := ev_lenTI hr hs
  rwa [len_rowOf] at this
/-- [.. for x in range(w)] as a tuple -/
theorem ep_rowR {w : Nat} {f : Int → Int} {n : Int} {ta : TA} {j : Nat} {vs : List Nat} (hwn : n = (w : Int)) (hn : w ≤ 40000) (h : EvA ta σ H [.int n]) (hw : ∀ x, wipe ((wipe σ vs).set j (some x)) vs = wipe σ vs)
    (he : ∀ (i : Nat), (i : Int) < w → Ev te ((wipe σ vs).set j (some (.int (i : Int)))) H (.int (f (i : Int)))) :
    EvP (tCB (rTupS K) (tCons (tLc (iRng1 ta) (gName j) tYes te vs) tNil)) σ H (RwV K (rowOf w f)) := by
  subst hwn
  refine ep_U (eu_tupL (el_mapR (fun i => V.int (f (i : Int))) h ⟨by omega, by omega⟩ hw he)) fun p H1 e hp => ⟨p, rfl, st_of ?_⟩
  rw [hp, Int.toNat_natCast]
  unfold rowOf
  rw [List.map_map]
  rfl
/-! == of boards, of lists of ints -/
def rwD (r : List Int) : PyData := .tuple (r.map PyData.int)
def bdD (B : List (List Int)) : PyData := .tuple (B.map rwD)
theorem dpI : ∀ (ns : List Int), DpAll K H (ns.map V.int) (ns.map PyData.int)
  | [] => .nil
  | n :: r => .cons (.int n) (dpI r)
theorem rw_dp {r : List Int} (h : RwV K r v H) : Dp K H v (rwD r) := by
  obtain ⟨a, rfl, hs⟩ := h
  exact .tup hs (dpI r)
theorem bd_all : ∀ {vs : List V} {B : List (List Int)}, vs.length = B.length → (∀ (i : Nat) (u : V) (r : List Int), vs[i]? = some u → B[i]? = some r → RwV K r u H) → DpAll K H vs (B.map rwD)
  | [], [], _, _ => .nil
  | [], _ :: _, h, _ => by simp at h
  | _ :: _, [], h, _ => by simp at h
  | u :: vs, r :: B, h, hr => .cons (rw_dp (hr 0 u r rfl rfl)) (bd_all (by simpa using h) fun i u' r' h1 h2 => hr (i + 1) u' r' h1 h2)
theorem bd_dp (h : BdV K B v H) : Dp K H v (bdD B) := by
  obtain ⟨p, vs, rfl, hs, hl, hr⟩ := h
  exact .tup hs (bd_all hl hr)
theorem eqvI : ∀ (ns ms : List Int), PyData.eqvAll (ns.map PyData.int) (ms.map PyData.int) = decide (ns = ms)
  | [], [] => rfl
  | [], _ :: _ => rfl
  | _ :: _, [] => rfl
  | a :: r, b :: s => by
    show (PyData.eqv (.int a) (.int b) && PyData.eqvAll (r.map PyData.int) (s.map PyData.int)) = _
    rw [eqvI r s, show PyData.eqv (.int a) (.int b) = (a == b) from by rw [PyData.eqv]]
    by_cases h1 : a = b <;> by_cases h2 : r = s <;> simp [h1, h2]
theorem eqvB : ∀ (B C : List (List Int)), PyData.eqvAll (B.map rwD) (C.map rwD) = decide (B = C)
  | [], [] => rfl
  | [], _ :: _ => rfl
  | _ :: _, [] => rfl
  | a :: r, b :: s => by
    show (PyData.eqv (rwD a) (rwD b) && PyData.eqvAll (r.map rwD) (s.map rwD)) = _
    rw [eqvB r s, show PyData.eqv (rwD a) (rwD b) = decide (a = b) from by unfold rwD; rw [PyData.eqv, eqvI]]
    by_cases h1 : a = b <;> by_cases h2 : r = s <;> simp [h1, h2]
theorem eqv_bd : PyData.eqv (bdD B) (bdD C) = decide (B = C) := by
  unfold bdD
  rw [PyData.eqv, eqvB]
theorem layI : ∀ (ns : List Int), PyData.canLayAll0 (ns.map PyData.int) = true ∧ PyData.depthAll (ns.map PyData.int) ≤ 1
  | [] => ⟨rfl, by simp [PyData.depthAll]⟩
  | n :: r => by
    obtain ⟨h1, h2⟩ := layI r
    refine ⟨?_, ?_⟩
    · simp [PyData.canLayAll0, PyData.canLay0, h1]
    · simp only [List.map_cons, PyData.depthAll, PyData.depth]
      omega
theorem layB : ∀ (B : List (List Int)), PyData.canLayAll0 (B.map rwD) = true ∧ PyData.depthAll (B.map rwD) ≤ 3
  | [] => ⟨rfl, by simp [PyData.depthAll]⟩
  | b :: r => by
    obtain ⟨h1, h2⟩ := layB r
    obtain ⟨h3, h4⟩ := layI b
    refine ⟨?_, ?_⟩
    · simp [PyData.canLayAll0, PyData.canLay0, rwD, h1, h3]
    · simp only [List.map_cons, PyData.depthAll, PyData.depth, rwD]
      omega
theorem shaped_bd : SeqAt.shaped (bdD B) = true := by
  obtain ⟨h1, h2⟩ := layB B
  unfold SeqAt.shaped bdD
  simp only [PyData.canLay0, PyData.depth, h1, Bool.true_and]
  exact decide_eq_true (by omega)
theorem shaped_rw (r : List Int) : SeqAt.shaped (rwD r) = true := by
  obtain ⟨h1, h2⟩ := layI r
  unfold SeqAt.shaped rwD
  simp only [PyData.canLay0, PyData.depth, h1, Bool.true_and]
  exact decide_eq_true (by omega)
theorem shaped_l (r : List Int) : SeqAt.shaped (.list (r.map PyData.int)) = true := by
  obtain ⟨h1, h2⟩ := layI r
  unfold SeqAt.shaped
  simp only [PyData.canLay0, PyData.depth, h1, Bool.true_and]
  exact decide_eq_true (by omega)
theorem rv_eqB (h1 : BdV K B x H) (h2 : BdV K C y H) : RV (rEqD K) x y H (.bl (decide (B = C))) :=
  fun H1 e Q q => ⟨bdD B, bdD C, bd_dp (h1.up e), bd_dp (h2.up e), shaped_bd, shaped_bd, by rw [eqv_bd]; exact q H1 (Ex.refl H1)⟩
theorem rv_neB (h1 : BdV K B x H) (h2 : BdV K C y H) : RV (rNeD K) x y H (.bl (decide (B ≠ C))) :=
  fun H1 e Q q => ⟨bdD B, bdD C, bd_dp (h1.up e), bd_dp (h2.up e), shaped_bd, shaped_bd, by rw [eqv_bd, ← decide_not]; exact q H1 (Ex.refl H1)⟩
theorem rv_eqL {p q : Addr} {ns ms : List Int} (h1 : SqL K H p (ns.map V.int)) (h2 : SqL K H q (ms.map V.int)) : RV (rEqD K) (.ref p) (.ref q) H (.bl (decide (ns = ms))) :=
  fun H1 e Q k => ⟨_, _, .lst (ex_l e h1) (dpI ns), .lst (ex_l e h2) (dpI ms), shaped_l ns, shaped_l ms, by rw [PyData.eqv, eqvI]; exact k H1 (Ex.refl H1)⟩
theorem rv_neL {p q : Addr} {ns ms : List Int} (h1 : SqL K H p (ns.map V.int)) (h2 : SqL K H q (ms.map V.int)) : RV (rNeD K) (.ref p) (.ref q) H (.bl (decide (ns ≠ ms))) :=
  fun H1 e Q k => ⟨_, _, .lst (ex_l e h1) (dpI ns), .lst (ex_l e h2) (dpI ms), shaped_l ns, shaped_l ms, by rw [PyData.eqv, eqvI, ← decide_not]; exact k H1 (Ex.refl H1)⟩
theorem rv_eqT {ns ms : List Int} (h1 : RwV K ns x H) (h2 : RwV K ms y H) : RV (rEqD K) x y H (.bl (decide (ns = ms))) :=
  fun H1 e Q k => ⟨_, _, rw_dp (rw_imm ns x _ _ (ExI.of e) h1), rw_dp (rw_imm ms y _ _ (ExI.of e) h2), shaped_rw ns, shaped_rw ms, by unfold rwD; rw [PyData.eqv, eqvI]; exact k H1 (Ex.refl H1)⟩
theorem rv_neT {ns ms : List Int} (h1 : RwV K ns x H) (h2 : RwV K ms y H) : RV (rNeD K) x y H (.bl (decide (ns ≠ ms))) :=
  fun H1 e Q k => ⟨_, _, rw_dp (rw_imm ns x _ _ (ExI.of e) h1), rw_dp (rw_imm ms y _ _ (ExI.of e) h2), shaped_rw ns, shaped_rw ms, by unfold rwD; rw [PyData.eqv, eqvI, ← decide_not]; exact k H1 (Ex.refl H1)⟩
/-! isinstance of a value whose type is known -/
theorem rc_isi {x c : V} {t u : Value} {b : Bool} (k : ClsV c u) (ty : ∀ H1, Ex H H1 → TyX K H1 x t) (h : PySem.W.kitOne K t u = some b) : RC (rIsi K) [x, c] H (.bl b) := fun H1 e Q q => ⟨x, c, t, u, b, rfl, k, ty H1 e, h, q H1 (Ex.refl H1)⟩
theorem tyx_t {a : Addr} {xs : List V} (h : SqT K H a xs) : TyX K H (.ref a) (.type "tuple") := by
  rcases h with (h | ⟨o, h⟩) | ⟨o, its, n, h, hc, _⟩
  · exact .base (.tup h)
  · exact .fTuple h
  · exact .kTuple h hc
theorem tyx_l {a : Addr} {xs : List V} (h : SqL K H a xs) : TyX K H (.ref a) (.type "list") := by
  rcases h with (h | ⟨o, h⟩) | ⟨o, its, n, h, hc, _⟩
  · exact .base (.lst h)
  · exact .base (.frz h)
  · exact .kList h hc
end
/-! ### boards that are equal -/
theorem mk_congr {h w : Nat} {f g : Int → Int → Int} (e : ∀ (y x : Int), 0 ≤ y → y < h → 0 ≤ x → x < w → f y x = g y x) : mk h w f = mk h w g := by
  unfold mk rowOf
  apply List.map_congr_left
  intro y hy
  apply List.map_congr_left
  intro x hx
  have h1 := List.mem_range.mp hy
  have h2 := List.mem_range.mp hx
  exact e _ _ (by omega) (by omega) (by omega) (by omega)
theorem mk_inj {h w : Nat} {f g : Int → Int → Int} (e : mk h w f = mk h w g) {y x : Int} (h0 : 0 ≤ y) (h1 : y < h) (h2 : 0 ≤ x) (h3 : x < w) : f y x = g y x := by
  obtain ⟨i, rfl⟩ := Int.eq_ofNat_of_zero_le h0
  have e1 : (mk h w f)[i]? = (mk h w g)[i]? := by rw [e]
  rw [mk_get (show i < h by omega), mk_get (show i < h by omega)] at e1
  have e2 := Option.some.inj e1
  rw [← at0_rowOf (f := f i) h2 h3, ← at0_rowOf (f := g i) h2 h3, e2]
/-! ### calls of builtins, by relations with a name -/
section
variable {X : Cx}
theorem call_lenS : CallR X (.builtin "len") (rLenS X.K) := call_len_seq
theorem call_listS : CallR X (.type "list") (rListS X.K) := call_list_of
theorem call_tupS : CallR X (.type "tuple") (rTupS X.K) := call_tuple_of
theorem call_min2S (hc : X.calm = true) : CallR X (.builtin "min") rMin2 := call_min2 hc
theorem call_int1S : CallR X (.type "int") rInt1 := call_int1
theorem op_geS : OpR X (compareOp .GtE) (rI0 fun i j => .bl (decide (j ≤ i))) := op_ge
end
/-! ### the body's context of a def -/
theorem spv_of {sp : Sp} {vs : List V} {H : Hp} {z : V} (h : ∀ H1, Ex H H1 → ∀ Q : VK, RetV z H1 Q → ∀ E : XK, sp vs H1 Q E) : SpV sp vs H z := h
/-! ### sum of a tuple of ints -/
def rSumT (K : PySem.W.Frag) : List V → Hp → VK → Prop := fun vs H Q => ∃ (a : Addr) (ns : List Int), vs = [V.ref a] ∧ SqT K H a (ns.map V.int) ∧ Q (.int ns.sum) H
theorem cr_sumT {X : Cx} (hc : X.calm = true) : CallR X (.builtin "sum") (rSumT X.K) := by
  intro pins s σ H vs us Q I r h
  obtain ⟨a, ns, rfl, hs, q⟩ := h
  obtain ⟨its, rv, hl, _⟩ := I.tuple hs
  rw [Vals.ref1 r]
  obtain ⟨xs, e⟩ := (Vals.ints rv).allInts.items
  have hn : numsOf (intItems xs).toList = ns := by rw [← e]; exact (Vals.ints rv).numsOf
  rw [nums_intItems] at hn
  rw [e] at hl
  refine PySem.W.ktm_sumG (I.ok.hd hc) hl fun h' tk t' hk => ?_
  rw [preSum_eq, List.take_of_length_le (by simp), hn]
  exact ⟨.int _, H, I.kept hk, ⟨_, rfl⟩, q⟩
section
variable {K : PySem.W.Frag} {σ : L2.St} {H H' : Hp} {ta tb te tx : TE} {t u : TT} {x y z v : V} {r : R2} {P : V → Hp → Prop} {D : Ends} {tu tw tz : TS}
theorem ev_sumT {p : Addr} {ns : List Int} (ha : Ev ta σ H (.ref p)) (h : SqT K H p (ns.map V.int)) : Ev (tCB (rSumT K) (tCons ta tNil)) σ H (.int ns.sum) :=
  fun H1 e Q q => ha H1 e _ fun H2 e2 => ⟨p, ns, rfl, ex_t (e.trans e2) h, q H2 e2⟩
/-- if without else -/
theorem go_when {p : Prop} [Decidable p] (h : EvT t σ H (decide p)) (h1 : p → Go tu { D with nx := tz D } σ H) (h2 : ¬ p → Go tz D σ H) : Go (tSeq (tIfS t tu tNext) tz) D σ H := go_ifd h h1 h2
theorem go_whenb {b : Bool} (h : EvT t σ H b) (h1 : b = true → Go tu { D with nx := tz D } σ H) (h2 : b = false → Go tz D σ H) : Go (tSeq (tIfS t tu tNext) tz) D σ H := go_if h h1 h2
theorem gl_when {p : Prop} [Decidable p] (h : EvT t σ H (decide p)) (h1 : p → Go tu D σ H) (h2 : ¬ p → GoN D σ H) : Go (tIfS t tu tNext) D σ H := gl_ifd h h1 h2
theorem gl_whenb {b : Bool} (h : EvT t σ H b) (h1 : b = true → Go tu D σ H) (h2 : b = false → GoN D σ H) : Go (tIfS t tu tNext) D σ H := gl_if h h1 h2
/-- a test that is false, its branch never taken -/
theorem go_not {b : Bool} (h : EvT t σ H b) (hb : b = false) (h2 : Go tz D σ H) : Go (tSeq (tIfS t tu tNext) tz) D σ H := go_whenb h (fun e => by rw [hb] at e; cases e) (fun _ => h2)
end
/-! ### a word behind an if -/
section
variable {K : PySem.W.Frag} {σ : L2.St} {H H' : Hp} {ta tb te tx : TE} {t u : TT} {D : Ends} {tu tw tz : TS}
theorem go_cut (M : L2.St → Hp → Prop) (h : Go tu { D with nx := M } σ H) (k : ∀ σ' H', M σ' H' → Go tz D σ' H') : Go (tCut tu tz) D σ H := fun H1 e => ⟨M, h H1 e, fun σ' H' m => (k σ' H' m).at⟩
theorem go_cutIf {b : Bool} (M : L2.St → Hp → Prop) (h : EvT t σ H b) (h1 : b = true → Go tu { D with nx := M } σ H) (h2 : b = false → Go tw { D with nx := M } σ H) (k : ∀ σ' H', M σ' H' → Go tz D σ' H') : Go (tCut (tIfS t tu tw) tz) D σ H :=
  go_cut M (gl_if h h1 h2) k
theorem go_cutIfd {p : Prop} [Decidable p] (M : L2.St → Hp → Prop) (h : EvT t σ H (decide p)) (h1 : p → Go tu { D with nx := M } σ H) (h2 : ¬ p → Go tw { D with nx := M } σ H) (k : ∀ σ' H', M σ' H' → Go tz D σ' H') : Go (tCut (tIfS t tu tw) tz) D σ H :=
  go_cut M (gl_ifd h h1 h2) k
end
/-! ### methods of lists as statements -/
def rInsert : V → List V → Hp → VK → Prop := fun x vs H Q => ∃ (l : Addr) (xs : List V) (i : Int) (y : V), x = .ref l ∧ vs = [.int i, y] ∧ H l = some (.lst xs) ∧ xs.length < sizeLine ∧ 0 ≤ i ∧ i < 2 ^ 63 ∧ Q .non (upd H l (.lst (xs.take i.toNat ++ [y] ++ xs.drop i.toNat)))
section
variable {K : PySem.W.Frag} {σ : L2.St} {H H' : Hp} {ta tb te tx : TE} {t u : TT} {x y z v : V} {P : V → Hp → Prop} {D : Ends} {tu tw tz : TS}
theorem gl_rev {l : Addr} {xs : List V} (hl : H l = some (.lst xs)) (ha : Ev ta σ H (.ref l)) (k : ∀ H1, Ex H H1 → GoN D σ (upd H1 l (.lst xs.reverse))) : Go (tDrop (tBM0 K "list" rReverse ta)) D σ H :=
  fun H1 e => ha H1 e _ fun H2 e2 => ⟨.inl ⟨rfl, xs, sq_of (e2 l _ (e l _ hl))⟩, l, xs, rfl, rfl, e2 l _ (e l _ hl), k H2 (e.trans e2) _ (Ex.refl _)⟩
theorem gl_clear {l : Addr} {xs : List V} (hl : H l = some (.lst xs)) (ha : Ev ta σ H (.ref l)) (k : ∀ H1, Ex H H1 → GoN D σ (upd H1 l (.lst []))) : Go (tDrop (tBM0 K "list" rClear ta)) D σ H :=
  fun H1 e => ha H1 e _ fun H2 e2 => ⟨.inl ⟨rfl, xs, sq_of (e2 l _ (e l _ hl))⟩, l, xs, rfl, rfl, e2 l _ (e l _ hl), k H2 (e.trans e2) _ (Ex.refl _)⟩
theorem go_clear {l : Addr} {xs : List V} (hl : H l = some (.lst xs)) (ha : Ev ta σ H (.ref l)) (k : ∀ H1, Ex H H1 → Go tz D σ (upd H1 l (.lst []))) : Go (tSeq (tDrop (tBM0 K "list" rClear ta)) tz) D σ H := gl_clear (D := { D with nx := tz D }) hl ha k
theorem gl_ins0 {l : Addr} {xs : List V} (hl : H l = some (.lst xs)) (ha : Ev ta σ H (.ref l)) (hi : Ev tb σ H (.int 0)) (h : Ev te σ H v) (hz : xs.length < 100000) (k : ∀ H1, Ex H H1 → GoN D σ (upd H1 l (.lst (v :: xs)))) : Go (tDrop (tBM K "list" rInsert ta (tCons tb (tCons te tNil)))) D σ H :=
  fun H1 e => ha H1 e _ fun H2 e2 => ⟨.inl ⟨rfl, xs, sq_of (e2 l _ (e l _ hl))⟩, hi H2 (e.trans e2) _ fun H3 e3 => h H3 ((e.trans e2).trans e3) _ fun H4 e4 =>
    ⟨l, xs, 0, v, rfl, rfl, e4 l _ (e3 l _ (e2 l _ (e l _ hl))), sz_lt hz, by decide, by decide, k H4 (((e.trans e2).trans e3).trans e4) _ (Ex.refl _)⟩⟩
theorem go_ins0 {l : Addr} {xs : List V} (hl : H l = some (.lst xs)) (ha : Ev ta σ H (.ref l)) (hi : Ev tb σ H (.int 0)) (h : Ev te σ H v) (hz : xs.length < 100000) (k : ∀ H1, Ex H H1 → Go tz D σ (upd H1 l (.lst (v :: xs)))) : Go (tSeq (tDrop (tBM K "list" rInsert ta (tCons tb (tCons te tNil)))) tz) D σ H :=
  gl_ins0 (D := { D with nx := tz D }) hl ha hi h hz k
end
theorem mt_insertS {X : Cx} : MtR X "list.insert" rInsert := mt_insert
/-! ### more -/
section
variable {K : PySem.W.Frag} {σ : L2.St} {H H' : Hp} {ta tb te tx : TE} {t u : TT} {x y z v : V} {P : V → Hp → Prop} {D : Ends} {tu tw tz : TS}
def ranI (n : Nat) (f : Int → Int) : List Int := (List.range n).map fun i : Nat => f (i : Int)
theorem len_ranI (n : Nat) (f : Int → Int) : (ranI n f).length = n := by unfold ranI; simp
theorem ranI_succ (n : Nat) (f : Int → Int) : ranI (n + 1) f = ranI n f ++ [f n] := by unfold ranI; rw [List.range_succ, List.map_append]; rfl
theorem at0_ranI {n : Nat} {f : Int → Int} {i : Int} (h0 : 0 ≤ i) (h1 : i < (n : Int)) : at0 (ranI n f) i = f i := at0_rowOf h0 h1
theorem ranI_congr {n : Nat} {f g : Int → Int} (h : ∀ i : Int, 0 ≤ i → i < n → f i = g i) : ranI n f = ranI n g := by
  unfold ranI
  apply List.map_congr_left
  intro i hi
  have := List.mem_range.mp hi
  exact h _ (by omega) (by omega)
theorem el_mapRI {ta : TA} {j : Nat} {vs : List Nat} {n : Int} (f : Int → Int) (h : EvA ta σ H [.int n]) (hn : 0 ≤ n ∧ n ≤ 40000) (hw : ∀ x, wipe ((wipe σ vs).set j (some x)) vs = wipe σ vs)
    (he : ∀ (i : Nat), (i : Int) < n → Ev te ((wipe σ vs).set j (some (.int (i : Int)))) H (.int (f (i : Int)))) : EvL (tLc (iRng1 ta) (gName j) tYes te vs) σ H ((ranI n.toNat f).map V.int) := by
  have := el_mapR (fun i : Nat => V.int (f (i : Int))) h hn hw he
  unfold ranI
  rw [List.map_map]
  exact this
/-- an item of a list that is just made -/
theorem ev_ixNL {xs : List V} {i : Int} (ha : EvL ta σ H xs) (hb : ∀ H1, Ex H H1 → Ev tb σ H1 (.int i)) (hx : atI xs i = some v) : Ev (tOp (rIxL K) ta tb) σ H v := ev_opL1 ha hb fun p H1 hp _ => rv_ixL (sq_of hp) hx
theorem ev_neN {p : Addr} {ns ms : List Int} (ha : Ev ta σ H (.ref p)) (h : SqL K H p (ns.map V.int)) (hb : EvL tb σ H (ms.map V.int)) : Ev (tOp (rNeD K) ta tb) σ H (.bl (decide (ns ≠ ms))) :=
  ev_opL ha hb fun q H1 hq e => rv_neL (ex_l e h) (sq_of hq)
theorem ev_neU {ns ms : List Int} (ha : Ev ta σ H v) (h : RwV K ns v H) (hb : EvU tb σ H (ms.map V.int)) : Ev (tOp (rNeD K) ta tb) σ H (.bl (decide (ns ≠ ms))) :=
  ev_opV ha hb fun q H1 hq e => rv_neT (rw_imm _ _ _ _ (ExI.of e) h) ⟨q, rfl, st_of hq⟩
theorem ev_isiT {a : Addr} {xs : List V} (ha : Ev ta σ H (.ref a)) (h : SqT K H a xs) : Ev (tCB (rIsi K) (tCons ta (tCons (tC (.ty "tuple")) tNil))) σ H (.bl true) :=
  ev_cb (ea_cons ha (ea_cons ev_c ea_nil)) (rc_isi (.ty "tuple") (fun H1 e => tyx_t (ex_t e h)) (kit_ty (by decide +kernel)))
theorem ev_isiL {a : Addr} {xs : List V} (ha : Ev ta σ H (.ref a)) (h : SqL K H a xs) : Ev (tCB (rIsi K) (tCons ta (tCons (tC (.ty "list")) tNil))) σ H (.bl true) :=
  ev_cb (ea_cons ha (ea_cons ev_c ea_nil)) (rc_isi (.ty "list") (fun H1 e => tyx_l (ex_l e h)) (kit_ty (by decide +kernel)))
theorem ev_isiB {b : Bool} (ha : Ev ta σ H (.bl b)) : Ev (tCB (rIsi K) (tCons ta (tCons (tC (.ty "bool")) tNil))) σ H (.bl true) :=
  ev_cb (ea_cons ha (ea_cons ev_c ea_nil)) (rc_isi (.ty "bool") (fun H1 e => .base (.bl b)) (kit_ty (by decide +kernel)))
theorem ev_isiS {x : Str} (ha : Ev ta σ H (.str x)) : Ev (tCB (rIsi K) (tCons ta (tCons (tC (.ty "str")) tNil))) σ H (.bl true) :=
  ev_cb (ea_cons ha (ea_cons ev_c ea_nil)) (rc_isi (.ty "str") (fun H1 e => .base (.str x)) (kit_ty (by decide +kernel)))
/-- a statement ahead of the rest: what it reaches is M -/
theorem go_mid (M : L2.St → Hp → Prop) (h : Go tu { D with nx := M } σ H) (k : ∀ σ' H', M σ' H' → Go tz D σ' H') : Go (tCut tu tz) D σ H := go_cut M h k
end
/-- the law's promise -/
def sp_law (K : PySem.W.Frag) : Sp := fun vs H Q _ => ∃ (a : Addr) (ns : List Int), vs = [.ref a] ∧ SqL K H a (ns.map V.int) ∧ ns.length ≤ 63 ∧ ∀ H', Q (.bl true) H'
theorem sp_law_of {K : PySem.W.Frag} {H : Hp} {a : Addr} {ns : List Int} (hS : SqL K H a (ns.map V.int)) (hl : ns.length ≤ 63) : sp_law K [.ref a] H (fun v _ => v = .bl true) fun _ _ _ => False := ⟨a, ns, rfl, hS, hl, fun _ => rfl⟩
/-- colours -/
theorem col_of (z : Int) : 2 ≤ 2 + z % 2 ∧ 2 + z % 2 ≤ 3 := by
  have h1 := Int.emod_nonneg z (show (2 : Int) ≠ 0 by decide)
  have h2 := Int.emod_lt_of_pos z (show (0 : Int) < 2 by decide)
  omega
theorem col_four {c : Int} (h0 : 2 ≤ c) (h1 : c ≤ 3) : (c = 2 ∧ c * c * c * c = 16) ∨ (c = 3 ∧ c * c * c * c = 81) := by
  rcases (show c = 2 ∨ c = 3 by omega) with rfl | rfl
  · exact .inl ⟨rfl, rfl⟩
  · exact .inr ⟨rfl, rfl⟩
/-! ### a return by cases, a made list of a known kind, a swap, a pop into another list -/
section
variable {K : PySem.W.Frag} {σ : L2.St} {H H' : Hp} {ta tb tc td te tx : TE} {t u : TT} {x y z v : V} {P : V → Hp → Prop} {D : Ends} {tu tw tz : TS}
theorem go_retIf {b : Bool} (h : EvT t σ H b) (h1 : b = true → Go (tRet ta) D σ H) (h2 : b = false → Go (tRet tb) D σ H) : Go (tRet (tIf t ta tb)) D σ H := by
  intro H1 e
  refine h H1 e _ fun H2 e2 => ?_
  cases b with
  | true => exact h1 rfl H2 (e.trans e2)
  | false => exact h2 rfl H2 (e.trans e2)
/-- a call that hands back a new list of ints of which S holds -/
def SpR (sp : Sp) (vs : List V) (H : Hp) (S : List Int → Prop) : Prop := ∀ H1, Ex H H1 → ∀ Q : VK, (∀ r, S r → RetL (r.map V.int) H1 Q) → ∀ E : XK, sp vs H1 Q E
theorem go_asgR {S : List Int → Prop} {sp : Sp} {dvs vs : List V} {E : XK} {ta : TA} {i : Nat} (h : EvA ta σ H vs) (hs : SpR sp (vs ++ dvs) H S)
    (k : ∀ r p H1, S r → H p = none → Ex H H1 → H1 p = some (.lst (r.map V.int)) → Go tz D (σ.set i (some (.ref p))) H1) : Go (tSeq (tAsg (tCall sp dvs E ta) (gName i)) tz) D σ H :=
  fun H1 e => h H1 e _ fun H2 e2 => hs H2 (e.trans e2) _ (fun r hr p H3 hp e3 h3 => k r p H3 hr (fresh_back (e.trans e2) hp) ((e.trans e2).trans e3) h3 H3 (Ex.refl H3)) E
theorem gl_asgR {S : List Int → Prop} {sp : Sp} {dvs vs : List V} {E : XK} {ta : TA} {i : Nat} (h : EvA ta σ H vs) (hs : SpR sp (vs ++ dvs) H S)
    (k : ∀ r p H1, S r → H p = none → Ex H H1 → H1 p = some (.lst (r.map V.int)) → GoN D (σ.set i (some (.ref p))) H1) : Go (tAsg (tCall sp dvs E ta) (gName i)) D σ H :=
  fun H1 e => h H1 e _ fun H2 e2 => hs H2 (e.trans e2) _ (fun r hr p H3 hp e3 h3 => k r p H3 hr (fresh_back (e.trans e2) hp) ((e.trans e2).trans e3) h3 H3 (Ex.refl H3)) E
theorem ixN_int {n : Nat} {i : Int} (h0 : 0 ≤ i) (h1 : i < (n : Int)) : ixN n i = some i.toNat := by
  obtain ⟨j, rfl⟩ := Int.eq_ofNat_of_zero_le h0
  exact ixN_nat (by omega)
/-- out[a], out[b] = out[b], out[a] -/
theorem gl_swap {l : Addr} {ns : List Int} {a b : Int} {to1 to2 to3 to4 ta1 ta2 tb1 tb2 : TE} (hl : H l = some (.lst (ns.map V.int))) (h1 : Ev to1 σ H (.ref l)) (h2 : Ev to2 σ H (.ref l)) (h3 : ∀ H1, Ev to3 σ H1 (.ref l)) (h4 : ∀ H1, Ev to4 σ H1 (.ref l))
    (ha : Ev ta1 σ H (.int a)) (ha' : ∀ H1, Ev ta2 σ H1 (.int a)) (hb : Ev tb1 σ H (.int b)) (hb' : ∀ H1, Ev tb2 σ H1 (.int b)) (a0 : 0 ≤ a) (a1 : a < (ns.length : Int)) (b0 : 0 ≤ b) (b1 : b < (ns.length : Int))
    (k : ∀ H1, Ex H H1 → ∀ H2, (∀ c, c ≠ l → ∀ o, H1 c = some o → H2 c = some o) → H2 l = some (.lst (((ns.set a.toNat (at0 ns b)).set b.toNat (at0 ns a)).map V.int)) → GoN D σ H2) :
    Go (tAsg (tTup (tCons (tOp (rIxL K) to1 tb1) (tCons (tOp (rIxL K) to2 ta1) tNil))) (gTup K 2 (gCons (gSub to3 ta2 rSetL) (gCons (gSub to4 tb2 rSetL) gNil)))) D σ H := by
  have hu := eu_tup (ea_cons (ev_ixLI (K := K) h1 hb (sq_of hl) b0 b1) (ea_cons (ev_ixLI (K := K) h2 ha (sq_of hl) a0 a1) ea_nil)) (by show (2 : Nat) ≤ 100000; decide)
  refine fun H1 e => hu H1 e _ fun t H2 ht e2 h2t => ?_
  have hl2 : H2 l = some (.lst (ns.map V.int)) := e2 _ _ (e _ _ hl)
  refine ⟨t, [.int (at0 ns b), .int (at0 ns a)], rfl, st_of h2t, rfl, _, _, rfl, h3 H2 H2 (Ex.refl _) _ fun H3 e3 => ha' H3 H3 (Ex.refl _) _ fun H4 e4 => ?_⟩
  refine ⟨l, _, a, a.toNat, rfl, rfl, e4 _ _ (e3 _ _ hl2), ixN_int a0 (by rw [List.length_map]; exact a1), _, _, rfl, h4 _ _ (Ex.refl _) _ fun H5 e5 => hb' H5 H5 (Ex.refl _) _ fun H6 e6 => ?_⟩
  refine ⟨l, _, b, b.toNat, rfl, rfl, e6 _ _ (e5 _ _ upd_same), ixN_int b0 (by rw [List.length_set, List.length_map]; exact b1), rfl, ?_⟩
  refine k H4 (((e.trans e2).trans e3).trans e4) _ (fun c hc o ho => ?_) ?_ _ (Ex.refl _)
  · rw [upd_ne hc]
    exact e6 _ _ (e5 _ _ (by rw [upd_ne hc]; exact ho))
  · rw [upd_same, List.map_set, List.map_set]
/-- xs.append(ys.pop(i)) -/
theorem gl_appPop {l m : Addr} {xs ys : List V} {i : Int} (hl : H l = some (.lst xs)) (hm : H m = some (.lst ys)) (hne : l ≠ m) (ha : Ev ta σ H (.ref l)) (hb : Ev tb σ H (.ref m)) (hi : Ev te σ H (.int i)) (h0 : 0 ≤ i) (h1 : i < (ys.length : Int)) (hz : xs.length < 100000) (hy : ys.length < 100000)
    (k : ∀ H1 y, Ex H H1 → ys[i.toNat]? = some y → GoN D σ (upd (upd H1 m (.lst (ys.eraseIdx i.toNat))) l (.lst (xs ++ [y])))) : Go (tDrop (tBM K "list" rAppend ta (tCons (tBM K "list" rPopAt tb (tCons te tNil)) tNil))) D σ H := by
  refine fun H1 e => ha H1 e _ fun H2 e2 => ⟨.inl ⟨rfl, xs, sq_of (e2 l _ (e l _ hl))⟩, hb H2 (e.trans e2) _ fun H3 e3 => ⟨.inl ⟨rfl, ys, sq_of (e3 _ _ (e2 m _ (e m _ hm)))⟩, hi H3 ((e.trans e2).trans e3) _ fun H4 e4 => ?_⟩⟩
  have hlt : i.toNat < ys.length := by omega
  refine ⟨m, ys, i, i.toNat, ys[i.toNat], rfl, rfl, e4 _ _ (e3 _ _ (e2 m _ (e m _ hm))), by omega, by omega, (ixN_seq (ixN_int h0 h1)).1, List.getElem?_eq_getElem hlt, ?_⟩
  refine ⟨l, xs, ys[i.toNat], rfl, rfl, ?_, sz_lt hz, k H4 _ (((e.trans e2).trans e3).trans e4) (List.getElem?_eq_getElem hlt) _ (Ex.refl _)⟩
  rw [upd_ne hne]
  exact e4 _ _ (e3 _ _ (e2 l _ (e l _ hl)))
end
/-! ### the rules with the written part told (within comprehensions too) -/
section
variable {X : Cx} {K : PySem.W.Frag}
theorem ix_listK (h : X.K = K) : IxR X (rIxL K) := h ▸ ix_list
theorem ix_tupK (h : X.K = K) : IxR X (rIxT K) := h ▸ ix_tup
theorem call_lenK (h : X.K = K) : CallR X (.builtin "len") (rLenS K) := h ▸ call_lenS
theorem call_listK (h : X.K = K) : CallR X (.type "list") (rListS K) := h ▸ call_listS
theorem call_tupK (h : X.K = K) : CallR X (.type "tuple") (rTupS K) := h ▸ call_tupS
theorem cr_sumK (h : X.K = K) (hc : X.calm = true) : CallR X (.builtin "sum") (rSum K) := h ▸ cr_sum hc
theorem cr_sumTK (h : X.K = K) (hc : X.calm = true) : CallR X (.builtin "sum") (rSumT K) := h ▸ cr_sumT hc
theorem call_isiK1 (h : X.K = K) : CallR X (.builtin "isinstance") (rIsi K) := h ▸ call_isi
theorem op_eqDK (h : X.K = K) (hu : X.A.units + 64 < cLine) : OpR X (compareOp .Eq) (rEqD K) := h ▸ op_eqD hu
theorem op_neDK (h : X.K = K) (hu : X.A.units + 64 < cLine) : OpR X (compareOp .NotEq) (rNeD K) := h ▸ op_neD hu
theorem op_inK (h : X.K = K) : OpR X (compareOp .In) (rIn K false) := h ▸ op_in_seq
theorem op_notInK (h : X.K = K) : OpR X (compareOp .NotIn) (rIn K true) := h ▸ op_notIn_seq
theorem sl_listK (h : X.K = K) : SlR X (rSlL K) := h ▸ sl_list
theorem pi_listK {tg l : Expr} {tl : TE} (h : X.K = K) (hl : PE X l tl) : PI X tg l (iList K tl) := h ▸ pi_list hl
theorem pi_tupK {tg l : Expr} {tl : TE} (h : X.K = K) (hl : PE X l tl) : PI X tg l (iTup K tl) := h ▸ pi_tup hl
end
/-- a list of ints, read -/
def LsV (K : PySem.W.Frag) (ns : List Int) (v : V) (H : Hp) : Prop := ∃ p, v = .ref p ∧ SqL K H p (ns.map V.int)
theorem ls_mono {K : PySem.W.Frag} (ns : List Int) : Mono (LsV K ns) := fun v H H' e ⟨p, h, hs⟩ => ⟨p, h, ex_l e hs⟩
/-- the scope of a comprehension's block, for a comprehension within it -/
def relS (scope sc : Scope) : Scope := { scope with names := scope.names.map fun (n, k) => if (k == .free && sc.kind == .function && sc.names.lookup n == some .cell) then (n, .cell) else (n, k) }
/-! ### comprehensions over enumerate(list), over a tuple that a call hands back -/
section
variable {K : PySem.W.Frag} {σ : L2.St} {H H' : Hp} {ta tb te tx : TE} {t u : TT} {x y z v : V}
theorem pg_tupK {X : Cx} {pos : Pos} {es : List Expr} {k : Nat} {t : TGs} {n : Nat} (hK : X.K = K) (hc : X.calm = true) (h : PGs X es t) (hn : (assignEach es X.env).length = n := by rfl) (hst : (assignEach es X.env).findIdx? (·.1) = none := by rfl) : PG X (.Tuple es k pos) (gTup K n t) := hK ▸ pg_tup hc h hn hst
theorem pi_enumK {X : Cx} {e : Expr} {ta : TA} {p pos tpos : Pos} {elts : List Expr} {kk : Nat} (hK : X.K = K) (hg : Gl X "enumerate") (hm : X.mg "enumerate" = none) (ha : PA X [e] ta) (hs : starEach [e] X.env = [(false, eval e X.env)] := by rfl) : PI X (.Tuple elts kk tpos) (.Call (.Name "enumerate" p) [e] [] pos) (iEnum K ta) := hK ▸ pi_enum hg hm ha hs
theorem el_lcE {ta : TA} {p : Addr} {ns : List Int} {i j : Nat} {vs : List Nat} (v : Nat → V) (h : EvA ta σ H [.ref p]) (hx : SqL K H p (ns.map V.int)) (hz : ns.length ≤ 40000) (hw : ∀ x y, wipe (((wipe σ vs).set i (some x)).set j (some y)) vs = wipe σ vs)
    (he : ∀ (k : Nat) (x : Int), ns[k]? = some x → Ev te (((wipe σ vs).set i (some (.int (k : Int)))).set j (some (.int x))) H (v k)) : EvL (tLc (iEnum K ta) (gTup K 2 (gCons (gName i) (gCons (gName j) gNil))) tYes te vs) σ H ((List.range ns.length).map v) := by
  intro H0 e Q q
  refine h H0 e _ fun H1 e1 => ⟨p, ns.map V.int, rfl, ex_l (e.trans e1) hx, fun D hD => ?_⟩
  refine ⟨fun k m H' => k + m = ns.length ∧ H1 D = none ∧ Ex H1 H' ∧ H' D = some (.lst ((List.range k).map v)), ⟨ns.length, by omega, hD, Ex.new hD, upd_same⟩, fun k m H' ⟨hk, p1, p2, p3⟩ => ?_⟩
  have hs := ex_l ((e.trans e1).trans p2) hx
  by_cases hlt : k < ns.length
  · have hg : (ns.map V.int)[k]? = some (.int ns[k]) := by rw [List.getElem?_map, List.getElem?_eq_getElem hlt]; rfl
    refine .inr ⟨⟨_, _, hs, hg⟩, fun H'' => H1 D = none ∧ Ex H1 H'' ∧ H'' D = some (.lst ((List.range (k + 1)).map v)), fun H'' hn => ⟨m - 1, by omega, by omega, hn⟩, fun x H'' hy => ?_⟩
    obtain ⟨T, x2, rfl, nT, rfl, f2⟩ := hy
    have ex2 : x2 = .int ns[k] := Option.some.inj ((f2 _ hs).symm.trans hg)
    subst ex2
    have nTD : D ≠ T := ne_of_none p3 nT
    refine ⟨T, [.int (k : Int), .int ns[k]], rfl, st_of upd_same, rfl, _, _, rfl, _, _, rfl, rfl, hw _ _, ?_⟩
    show te _ _ _
    have eT : Ex H' (upd H' T (.tup [.int (k : Int), .int ns[k]])) := Ex.new nT
    refine he k ns[k] (List.getElem?_eq_getElem hlt) _ (((e.trans e1).trans p2).trans eT) _ fun H4 e4 => ⟨_, e4 _ _ (eT _ _ p3), sz_lt (by rw [List.length_map, List.length_range]; omega), p1, ((p2.trans eT).trans e4).mut p1, ?_⟩
    rw [upd_same, List.range_succ, List.map_append]
    rfl
  · have hkn : k = ns.length := by omega
    subst hkn
    exact .inl ⟨⟨_, hs, by rw [List.length_map]; exact Nat.le_refl _⟩, q D H' (fresh_back e1 p1) (e1.trans p2) p3⟩
theorem el_mapTP {ns : List Int} {tl : TE} {j : Nat} {vs : List Nat} (g : Int → V) (h : EvP tl σ H (RwV K ns)) (hz : ns.length ≤ 40000) (hw : ∀ x, wipe ((wipe σ vs).set j (some x)) vs = wipe σ vs)
    (he : ∀ (x : Int), x ∈ ns → Ev te ((wipe σ vs).set j (some (.int x))) H (g x)) : EvL (tLc (iTup K tl) (gName j) tYes te vs) σ H (ns.map g) := by
  intro H0 e Q q
  refine h H0 e _ fun v H1 e1 hv => ?_
  obtain ⟨a, rfl, hx⟩ := hv
  refine ⟨a, rfl, ⟨_, hx⟩, fun Dl hD => ?_⟩
  have q' : ∀ H', Cw H1 (fun _ => true) (fun i : Nat => g (at0 ns (i : Int))) Dl (ns.map V.int).length H' → Q (.ref Dl) H' := fun H' p => q Dl H' (fresh_back e1 p.1) (e1.trans p.2.1) (by rw [p.2.2, given_all, List.length_map, map_at0])
  exact lc_tup (xs := ns.map V.int) (Cw H1 (fun _ => true) (fun i : Nat => g (at0 ns (i : Int))) Dl) ⟨hD, Ex.new hD, upd_same⟩ (fun i H' _ p => ex_t p.2.1 hx) (fun i x H' hi p => by
    obtain ⟨rfl, hl⟩ := at0_of hi
    refine ⟨hw _, cw_turn p (by omega) et_yes (fun _ => (he _ ?_).mono (e.trans e1))⟩
    unfold at0
    rw [List.getD_eq_getElem?_getD, Int.toNat_natCast, List.getElem?_eq_getElem hl]
    exact List.getElem_mem hl) q'
end
/-! ### a tuple of made things; is None -/
section
variable {K : PySem.W.Frag} {σ : L2.St} {H H' : Hp} {ta tb te tx : TE} {t u : TT} {x y z v : V} {P : V → Hp → Prop}
theorem ep_tupP {ta : TA} {R : List V → Hp → Prop} (m : ∀ vs H H', Ex H H' → R vs H → R vs H') (h : EvAP ta σ H R) (hl : ∀ vs H1, R vs H1 → vs.length ≤ 100000) (hp : ∀ p vs H1, Ex H H1 → H1 p = some (.tup vs) → R vs H1 → P (.ref p) H1) : EvP (tTup ta) σ H P :=
  fun H1 e Q q => h H1 e _ fun vs H2 e2 hR => ⟨sz_of (hl vs H2 hR), fun p hn => q (.ref p) _ (e2.trans (Ex.new hn)) (hp p vs _ ((e.trans e2).trans (Ex.new hn)) upd_same (m vs _ _ (Ex.new hn) hR))⟩
theorem eap_nil : EvAP tNil σ H (fun vs _ => vs = []) := fun H1 e Q q => q [] H1 (Ex.refl H1) rfl
theorem rv_isN : RV rIsN x .non H (.bl (decide (x = .non))) := fun H1 e Q q => ⟨rfl, q H1 (Ex.refl H1)⟩
theorem rv_notN : RV rNotN x .non H (.bl (!decide (x = .non))) := fun H1 e Q q => ⟨rfl, q H1 (Ex.refl H1)⟩
end
end BT
namespace BT
open PySem PySem.Spec PyProof.Rows L2 Evl
/-! ### blocks and their numbers (plain) -/
def quo (n c : Int) : Nat → Int
  | 0 => n
  | i + 1 => quo n c i / c
def digs (n c : Int) : Nat → List Int
  | 0 => []
  | i + 1 => digs n c i ++ [quo n c i % c]
theorem digs_len (n c : Int) : ∀ i, (digs n c i).length = i
  | 0 => rfl
  | i + 1 => by rw [digs, List.length_append, digs_len n c i]; rfl
def blockM (n c : Int) : List Int := [n / c / c / c % c, n / c / c % c, n / c % c, n % c]
def numM (r : List Int) (c : Int) : Int := r.foldl (fun a d => a * c + d) 0
theorem numM_take {r : List Int} {c : Int} {i : Nat} {x : Int} (h : r[i]? = some x) : numM (r.take (i + 1)) c = numM (r.take i) c * c + x := by
  unfold numM
  rw [List.take_add_one, h]
  simp
end BT
namespace BT
open PySem PySem.Spec PyProof.Rows L2 Evl
/-! ### rules: each number just once (plain) -/
def rng (n : Nat) : List Int := ranI n fun i => i
def IsRule (n : Nat) (r : List Int) : Prop := r.Perm (rng n)
theorem len_rng (n : Nat) : (rng n).length = n := len_ranI n _
theorem IsRule.len {n : Nat} {r : List Int} (h : IsRule n r) : r.length = n := by rw [h.length_eq, len_rng]
theorem mem_rng {n : Nat} {x : Int} : x ∈ rng n ↔ 0 ≤ x ∧ x < n := by
  unfold rng ranI
  rw [List.mem_map]
  constructor
  · rintro ⟨i, hi, rfl⟩
    have := List.mem_range.mp hi
    show (0 : Int) ≤ i ∧ (i : Int) < n
    omega
  · rintro ⟨h0, h1⟩
    exact ⟨x.toNat, List.mem_range.mpr (by omega), by show ((x.toNat : Nat) : Int) = x; omega⟩
theorem IsRule.mem {n : Nat} {r : List Int} (h : IsRule n r) {x : Int} : x ∈ r ↔ 0 ≤ x ∧ x < n := by rw [h.mem_iff, mem_rng]
theorem nodup_rng (n : Nat) : (rng n).Nodup := by
  unfold rng ranI
  refine List.Pairwise.map _ (fun (a b : Nat) hab => ?_) List.nodup_range
  show (a : Int) ≠ (b : Int)
  omega
theorem IsRule.nodup {n : Nat} {r : List Int} (h : IsRule n r) : r.Nodup := h.nodup_iff.mpr (nodup_rng n)
theorem at0_nat {r : List Int} {i : Nat} (h : i < r.length) : at0 r (i : Int) = r[i] := by
  unfold at0
  rw [List.getD_eq_getElem?_getD, Int.toNat_natCast, List.getElem?_eq_getElem h]
  rfl
theorem at0_int {r : List Int} {i : Int} (h0 : 0 ≤ i) (h1 : i < (r.length : Int)) : at0 r i = r[i.toNat]'(by omega) := by
  obtain ⟨j, rfl⟩ := Int.eq_ofNat_of_zero_le h0
  exact at0_nat (by omega)
theorem at0_mem {r : List Int} {i : Int} (h0 : 0 ≤ i) (h1 : i < (r.length : Int)) : at0 r i ∈ r := by
  rw [at0_int h0 h1]
  exact List.getElem_mem _
theorem IsRule.at {n : Nat} {r : List Int} (h : IsRule n r) {i : Int} (h0 : 0 ≤ i) (h1 : i < n) : 0 ≤ at0 r i ∧ at0 r i < n :=
  h.mem.mp (at0_mem h0 (by rw [h.len]; exact h1))
theorem IsRule.inj {n : Nat} {r : List Int} (h : IsRule n r) {i j : Int} (h0 : 0 ≤ i) (h1 : i < n) (h2 : 0 ≤ j) (h3 : j < n) (e : at0 r i = at0 r j) : i = j := by
  have hl := h.len
  rw [at0_int h0 (by omega), at0_int h2 (by omega)] at e
  have := (List.getElem_inj h.nodup).mp e
  omega
theorem perm_erase : ∀ (l : List Int) (i : Nat) (h : i < l.length), (l[i] :: l.eraseIdx i).Perm l
  | [], i, h => absurd h (by simp)
  | a :: r, 0, _ => .refl _
  | a :: r, i + 1, h => by
    show (r[i]'(by simpa using h) :: a :: r.eraseIdx i).Perm (a :: r)
    exact (List.Perm.swap a _ _).trans ((perm_erase r i (by simpa using h)).cons a)
theorem perm_swap2 (l : List Int) (i j : Nat) (hi : i < l.length) (hj : j < l.length) : ((l.set i l[j]).set j l[i]).Perm l := by
  rw [List.perm_iff_count]
  intro a
  rw [List.count_set (by rw [List.length_set]; exact hj), List.count_set hi]
  have e : (l.set i l[j])[j]'(by rw [List.length_set]; exact hj) = l[j] := by
    rw [List.getElem_set]
    split
    · rfl
    · rfl
  rw [e]
  have ci : l[i] = a → 0 < l.count a := fun h => List.count_pos_iff.mpr (h ▸ List.getElem_mem hi)
  have cj : l[j] = a → 0 < l.count a := fun h => List.count_pos_iff.mpr (h ▸ List.getElem_mem hj)
  by_cases h1 : l[i] = a <;> by_cases h2 : l[j] = a <;> simp only [h1, h2, beq_iff_eq, if_true, if_false, beq_self_eq_true] <;> simp
  · have := ci h1; omega
  · have := ci h1; omega
theorem isRule_swap {n : Nat} {r : List Int} (h : IsRule n r) {a b : Int} (h0 : 0 ≤ a) (h1 : a < (r.length : Int)) (h2 : 0 ≤ b) (h3 : b < (r.length : Int)) : IsRule n ((r.set a.toNat (at0 r b)).set b.toNat (at0 r a)) := by
  rw [at0_int h0 h1, at0_int h2 h3]
  exact (perm_swap2 r a.toNat b.toNat (by omega) (by omega)).trans h
/-- the place of a number, the rule back -/
def backL (r : List Int) : List Int := ranI r.length fun x => (r.idxOf x : Nat)
theorem len_backL (r : List Int) : (backL r).length = r.length := len_ranI _ _
theorem idx_at {n : Nat} {r : List Int} (h : IsRule n r) {x : Int} (h0 : 0 ≤ x) (h1 : x < n) : r.idxOf x < r.length ∧ at0 r (r.idxOf x : Nat) = x := by
  have hm : x ∈ r := h.mem.mpr ⟨h0, h1⟩
  have hl := List.idxOf_lt_length_of_mem hm
  refine ⟨hl, ?_⟩
  rw [at0_nat hl]
  exact List.getElem_idxOf hl
theorem at_idx {n : Nat} {r : List Int} (h : IsRule n r) {i : Int} (h0 : 0 ≤ i) (h1 : i < n) : ((r.idxOf (at0 r i) : Nat) : Int) = i := by
  obtain ⟨ha, hb⟩ := h.at h0 h1
  obtain ⟨hl, he⟩ := idx_at h ha hb
  have := h.len
  exact h.inj (by omega) (by omega) h0 h1 he
theorem at0_backL {n : Nat} {r : List Int} (h : IsRule n r) {x : Int} (h0 : 0 ≤ x) (h1 : x < n) : at0 (backL r) x = (r.idxOf x : Nat) := by
  unfold backL
  exact at0_ranI h0 (by rw [h.len]; exact h1)
theorem back_at {n : Nat} {r : List Int} (h : IsRule n r) {i : Int} (h0 : 0 ≤ i) (h1 : i < n) : at0 (backL r) (at0 r i) = i := by
  obtain ⟨ha, hb⟩ := h.at h0 h1
  rw [at0_backL h ha hb, at_idx h h0 h1]
theorem at_back {n : Nat} {r : List Int} (h : IsRule n r) {x : Int} (h0 : 0 ≤ x) (h1 : x < n) : at0 r (at0 (backL r) x) = x := by
  rw [at0_backL h h0 h1]
  exact (idx_at h h0 h1).2
theorem nodup_of_inj {n : Nat} {r : List Int} (hl : r.length = n) (h : ∀ i j : Int, 0 ≤ i → i < n → 0 ≤ j → j < n → at0 r i = at0 r j → i = j) : r.Nodup := by
  rw [List.nodup_iff_pairwise_ne] at *
  rw [List.pairwise_iff_getElem]
  intro i j hi hj hij e
  have := h i j (by omega) (by omega) (by omega) (by omega) (by rw [at0_nat hi, at0_nat hj]; exact e)
  omega
theorem sub_count : ∀ {l m : List Int}, l.Nodup → (∀ x ∈ l, x ∈ m) → m.length ≤ l.length → l.Perm m
  | [], m, _, _, hl => by
    have : m = [] := List.eq_nil_of_length_eq_zero (by simpa using hl)
    rw [this]
  | a :: l, m, hn, hs, hl => by
    have ham : a ∈ m := hs a (List.mem_cons_self ..)
    obtain ⟨hna, hnl⟩ := List.nodup_cons.mp hn
    have h1 := List.perm_cons_erase ham
    have h2 : (m.erase a).length = m.length - 1 := List.length_erase_of_mem ham
    have hpos : 0 < m.length := List.length_pos_of_mem ham
    have hl' : m.length ≤ l.length + 1 := by simpa using hl
    have ih : l.Perm (m.erase a) := sub_count hnl (fun x hx => by
      have hxm := hs x (List.mem_cons_of_mem _ hx)
      have hne : x ≠ a := fun e => hna (e ▸ hx)
      exact (List.mem_erase_of_ne hne).mpr hxm) (by omega)
    exact (ih.cons a).trans h1.symm
/-- a rule, by its places -/
theorem isRule_of {n : Nat} {r : List Int} (hl : r.length = n) (hr : ∀ i : Int, 0 ≤ i → i < n → 0 ≤ at0 r i ∧ at0 r i < n) (hi : ∀ i j : Int, 0 ≤ i → i < n → 0 ≤ j → j < n → at0 r i = at0 r j → i = j) : IsRule n r := by
  refine sub_count (nodup_of_inj hl hi) (fun x hx => ?_) (by rw [len_rng, hl]; exact Nat.le_refl n)
  obtain ⟨k, hk, rfl⟩ := List.mem_iff_getElem.mp hx
  have := hr k (by omega) (by omega)
  rw [at0_nat hk] at this
  exact mem_rng.mpr this
theorem isRule_back {n : Nat} {r : List Int} (h : IsRule n r) : IsRule n (backL r) := by
  refine isRule_of (by rw [len_backL, h.len]) (fun i h0 h1 => ?_) (fun i j h0 h1 h2 h3 e => ?_)
  · rw [at0_backL h h0 h1]
    have := (idx_at h h0 h1).1
    rw [h.len] at this
    omega
  · have e2 := congrArg (at0 r) e
    rwa [at_back h h0 h1, at_back h h2 h3] at e2
theorem ext_at0 {r s : List Int} (hl : r.length = s.length) (h : ∀ i : Int, 0 ≤ i → i < r.length → at0 r i = at0 s i) : r = s := by
  apply List.ext_getElem hl
  intro i h1 h2
  have := h i (by omega) (by omega)
  rwa [at0_nat h1, at0_nat h2] at this
theorem back_back {n : Nat} {r : List Int} (h : IsRule n r) : backL (backL r) = r := by
  have hb := isRule_back h
  refine ext_at0 (by rw [len_backL, len_backL]) fun i h0 h1 => ?_
  rw [len_backL, len_backL, h.len] at h1
  have a1 := (isRule_back hb).at h0 h1
  have a2 := h.at h0 h1
  refine hb.inj a1.1 a1.2 a2.1 a2.2 ?_
  rw [at_back hb h0 h1, back_at h h0 h1]
theorem at0_set {r : List Int} {i j v : Int} (h0 : 0 ≤ i) (h1 : i < (r.length : Int)) (h2 : 0 ≤ j) : at0 (r.set i.toNat v) j = if j = i then v else at0 r j := by
  obtain ⟨a, rfl⟩ := Int.eq_ofNat_of_zero_le h0
  obtain ⟨b, rfl⟩ := Int.eq_ofNat_of_zero_le h2
  unfold at0
  rw [Int.toNat_natCast, Int.toNat_natCast, List.getD_eq_getElem?_getD, List.getElem?_set, List.getD_eq_getElem?_getD]
  by_cases e : a = b
  · subst e
    rw [if_pos rfl, if_pos (by omega), if_pos rfl]
    rfl
  · rw [if_neg e, if_neg (by omega)]
theorem ranI_set {n : Nat} {f : Int → Int} {i v : Int} (h0 : 0 ≤ i) (h1 : i < n) : (ranI n f).set i.toNat v = ranI n fun x => if x = i then v else f x := by
  refine ext_at0 (by rw [List.length_set, len_ranI, len_ranI]) fun j j0 j1 => ?_
  rw [List.length_set, len_ranI] at j1
  rw [at0_set h0 (by rw [len_ranI]; exact h1) j0, at0_ranI j0 j1, at0_ranI j0 j1]
theorem map_erase : ∀ (r : List Int) (i : Nat), (r.map V.int).eraseIdx i = (r.eraseIdx i).map V.int
  | [], _ => rfl
  | _ :: _, 0 => rfl
  | a :: r, i + 1 => by
    show V.int a :: (r.map V.int).eraseIdx i = V.int a :: (r.eraseIdx i).map V.int
    rw [map_erase r i]
def n4 (c : Int) : Nat := (c * c * c * c).toNat
theorem n4_int {c : Int} (h0 : 2 ≤ c) (h1 : c ≤ 3) : ((n4 c : Nat) : Int) = c * c * c * c ∧ n4 c ≤ 81 ∧ 16 ≤ n4 c := by
  unfold n4
  rcases col_four h0 h1 with ⟨rfl, e⟩ | ⟨rfl, e⟩ <;> rw [e] <;> decide
def wtB (W : List Int) (b : List Int) : Int := (b.map (at0 W)).sum
def wtM (n c : Int) (W : List Int) : Int := wtB W (blockM n c)
theorem blockM_mem {n c x : Int} (c0 : 2 ≤ c) (h : x ∈ blockM n c) : 0 ≤ x ∧ x < c := by
  unfold blockM at h
  simp only [List.mem_cons, List.not_mem_nil, or_false] at h
  rcases h with rfl | rfl | rfl | rfl <;> exact ⟨Int.emod_nonneg _ (by omega), Int.emod_lt_of_pos _ (by omega)⟩
def keepB (r : List Int) (c : Int) (W : List Int) : Prop := ∀ i : Int, 0 ≤ i → i < r.length → wtM i c W = wtM (at0 r i) c W
instance (r : List Int) (c : Int) (W : List Int) : Decidable (keepB r c W) := decidable_of_iff (∀ i : Fin r.length, wtM (i.val : Int) c W = wtM (at0 r (i.val : Int)) c W) ⟨fun h i h0 h1 => by
  obtain ⟨j, rfl⟩ := Int.eq_ofNat_of_zero_le h0
  exact h ⟨j, by omega⟩, fun h i => h i.val (Int.natCast_nonneg _) (by have := i.isLt; omega)⟩
end BT
namespace BT
open PySem PySem.Spec PyProof.Rows L2 Evl
/-! ### a board's step (plain) -/
theorem pred_mod {y h : Int} (h0 : 0 ≤ y) (h1 : y < h) : (y - 1) % h = if y = 0 then h - 1 else y - 1 := by
  by_cases e : y = 0
  · subst e
    rw [if_pos rfl, ← Int.add_emod_right, Int.emod_eq_of_lt (by omega) (by omega)]
    omega
  · rw [if_neg e, Int.emod_eq_of_lt (by omega) (by omega)]
theorem succ_mod {y h : Int} (h0 : 0 ≤ y) (h1 : y < h) : (y + 1) % h = if y = h - 1 then 0 else y + 1 := by
  by_cases e : y = h - 1
  · rw [if_pos e, e, show h - 1 + 1 = h by omega, Int.emod_self]
  · rw [if_neg e, Int.emod_eq_of_lt (by omega) (by omega)]
def topM (m y h : Int) : Int := if (y - m) % 2 = 0 then y else (y - 1) % h
theorem top_rng {m y h : Int} (h0 : 0 ≤ y) (h1 : y < h) : 0 ≤ topM m y h ∧ topM m y h < h := by
  unfold topM
  rw [pred_mod h0 h1]
  split
  · exact ⟨h0, h1⟩
  · split <;> omega
theorem top_par {m y : Int} {hh : Nat} (h0 : 0 ≤ y) (h1 : y < 2 * (hh : Int)) : (topM m y (2 * (hh : Int)) - m) % 2 = 0 := by
  unfold topM
  rw [pred_mod h0 h1]
  split
  · assumption
  · split <;> omega
/-- the cells of the block whose upper row is Y -/
theorem top_iff {m y Y : Int} {hh : Nat} (h0 : 0 ≤ y) (h1 : y < 2 * (hh : Int)) (H0 : 0 ≤ Y) (H1 : Y < 2 * (hh : Int)) (hp : (Y - m) % 2 = 0) : topM m y (2 * (hh : Int)) = Y ↔ y = Y ∨ y = (Y + 1) % (2 * (hh : Int)) := by
  unfold topM
  rw [pred_mod h0 h1, succ_mod H0 H1]
  split <;> split <;> (try split) <;> omega
def stepF (h w c : Int) (r : List Int) (m : Int) (f : Int → Int → Int) (y x : Int) : Int :=
  at0 (blockM (at0 r (numM [f (topM m y h) (topM m x w), f (topM m y h) ((topM m x w + 1) % w), f ((topM m y h + 1) % h) (topM m x w), f ((topM m y h + 1) % h) ((topM m x w + 1) % w)] c)) c)
    ((if y = topM m y h then 0 else 2) + if x = topM m x w then 0 else 1)
/-- bounds -/
def Bnd (h w : Nat) (c : Int) (f : Int → Int → Int) : Prop := ∀ y x : Int, 0 ≤ y → y < h → 0 ≤ x → x < w → 0 ≤ f y x ∧ f y x < c
theorem numM4 (a b d e c : Int) : numM [a, b, d, e] c = (((0 * c + a) * c + b) * c + d) * c + e := rfl
theorem num_rng {a b d e c : Int} (c0 : 2 ≤ c) (c1 : c ≤ 3) (ha : 0 ≤ a ∧ a < c) (hb : 0 ≤ b ∧ b < c) (hd : 0 ≤ d ∧ d < c) (he : 0 ≤ e ∧ e < c) : 0 ≤ numM [a, b, d, e] c ∧ numM [a, b, d, e] c < c * c * c * c := by
  rw [numM4]
  rcases col_four c0 c1 with ⟨rfl, e2⟩ | ⟨rfl, e2⟩ <;> rw [e2] <;> omega
theorem block_rng (n : Int) {c : Int} (c0 : 2 ≤ c) (i : Int) : 0 ≤ at0 (blockM n c) i ∧ at0 (blockM n c) i < c := by
  have key : ∀ z : Int, 0 ≤ z % c ∧ z % c < c := fun z => ⟨Int.emod_nonneg _ (by omega), Int.emod_lt_of_pos _ (by omega)⟩
  unfold at0 blockM
  match i.toNat with
  | 0 => exact key _
  | 1 => exact key _
  | 2 => exact key _
  | 3 => exact key _
  | _ + 4 => exact ⟨Int.le_refl _, by show (0 : Int) < c; omega⟩
theorem bnd_step {h w : Nat} {c m : Int} {r : List Int} {f : Int → Int → Int} (c0 : 2 ≤ c) : Bnd h w c (stepF h w c r m f) := fun y x _ _ _ _ => block_rng _ c0 _
/-- the cells stepped so far: blocks ahead of (Y, X) -/
def curF (h w c : Int) (r : List Int) (m : Int) (f : Int → Int → Int) (Y X : Int) (y x : Int) : Int :=
  if topM m y h < Y ∨ (topM m y h = Y ∧ topM m x w < X) then stepF h w c r m f y x else f y x
def updF (f : Int → Int → Int) (y x v : Int) (a b : Int) : Int := if a = y ∧ b = x then v else f a b
/-- one block written -/
theorem cur_next {hh ww : Nat} {c m : Int} {r : List Int} {f : Int → Int → Int} {Y X y x : Int} (hY0 : 0 ≤ Y) (hY1 : Y < 2 * (hh : Int)) (hX0 : 0 ≤ X) (hX1 : X < 2 * (ww : Int)) (pY : (Y - m) % 2 = 0) (pX : (X - m) % 2 = 0)
    (y0 : 0 ≤ y) (y1 : y < 2 * (hh : Int)) (x0 : 0 ≤ x) (x1 : x < 2 * (ww : Int)) :
    let made := blockM (at0 r (numM [f Y X, f Y ((X + 1) % (2 * (ww : Int))), f ((Y + 1) % (2 * (hh : Int))) X, f ((Y + 1) % (2 * (hh : Int))) ((X + 1) % (2 * (ww : Int)))] c)) c
    updF (updF (updF (updF (curF (2 * (hh : Int)) (2 * (ww : Int)) c r m f Y X) Y X (at0 made 0)) Y ((X + 1) % (2 * (ww : Int))) (at0 made 1)) ((Y + 1) % (2 * (hh : Int))) X (at0 made 2)) ((Y + 1) % (2 * (hh : Int))) ((X + 1) % (2 * (ww : Int))) (at0 made 3) y x
      = curF (2 * (hh : Int)) (2 * (ww : Int)) c r m f Y (X + 2) y x := by
  intro made
  have ty := top_iff y0 y1 hY0 hY1 pY
  have tx := top_iff x0 x1 hX0 hX1 pX
  have px := top_par (m := m) x0 x1
  have ny : (Y + 1) % (2 * (hh : Int)) ≠ Y := by rw [succ_mod hY0 hY1]; split <;> omega
  have nx : (X + 1) % (2 * (ww : Int)) ≠ X := by rw [succ_mod hX0 hX1]; split <;> omega
  by_cases hy : topM m y (2 * (hh : Int)) = Y
  · by_cases hx : topM m x (2 * (ww : Int)) = X
    · have e1 : curF (2 * (hh : Int)) (2 * (ww : Int)) c r m f Y (X + 2) y x = stepF (2 * (hh : Int)) (2 * (ww : Int)) c r m f y x := if_pos (.inr ⟨hy, by omega⟩)
      rw [e1]
      unfold stepF
      rw [hy, hx]
      show _ = at0 made _
      unfold updF
      rcases ty.mp hy with ey | ey <;> rcases tx.mp hx with ex | ex <;> subst ey <;> subst ex
      · rw [if_neg (fun z => ny z.1.symm), if_neg (fun z => ny z.1.symm), if_neg (fun z => nx z.2.symm), if_pos ⟨rfl, rfl⟩, if_pos rfl, if_pos rfl]
        rfl
      · rw [if_neg (fun z => ny z.1.symm), if_neg (fun z => ny z.1.symm), if_pos ⟨rfl, rfl⟩, if_pos rfl, if_neg nx]
        rfl
      · rw [if_neg (fun z => nx z.2.symm), if_pos ⟨rfl, rfl⟩, if_neg ny, if_pos rfl]
        rfl
      · rw [if_pos ⟨rfl, rfl⟩, if_neg ny, if_neg nx]
        rfl
    · have hx1 : ¬ (x = X) := fun z => hx (tx.mpr (.inl z))
      have hx2 : ¬ (x = (X + 1) % (2 * (ww : Int))) := fun z => hx (tx.mpr (.inr z))
      unfold updF
      rw [if_neg (fun z => hx2 z.2), if_neg (fun z => hx1 z.2), if_neg (fun z => hx2 z.2), if_neg (fun z => hx1 z.2)]
      unfold curF
      have : (topM m x (2 * (ww : Int)) < X) ↔ (topM m x (2 * (ww : Int)) < X + 2) := by omega
      simp only [this]
  · have hy1 : ¬ (y = Y) := fun z => hy (ty.mpr (.inl z))
    have hy2 : ¬ (y = (Y + 1) % (2 * (hh : Int))) := fun z => hy (ty.mpr (.inr z))
    unfold updF
    rw [if_neg (fun z => hy2 z.1), if_neg (fun z => hy2 z.1), if_neg (fun z => hy1 z.1), if_neg (fun z => hy1 z.1)]
    unfold curF
    simp only [hy, false_and, or_false]
theorem cur_row {hh ww : Nat} {c m : Int} {r : List Int} {f : Int → Int → Int} {Y X y x : Int} (hX : 2 * (ww : Int) ≤ X) (pY : (Y - m) % 2 = 0) (y0 : 0 ≤ y) (y1 : y < 2 * (hh : Int)) (x0 : 0 ≤ x) (x1 : x < 2 * (ww : Int)) (p : Int) (hp : p ≤ 0 ∨ (p = 1 ∧ (1 - m) % 2 = 0)) :
    curF (2 * (hh : Int)) (2 * (ww : Int)) c r m f Y X y x = curF (2 * (hh : Int)) (2 * (ww : Int)) c r m f (Y + 2) p y x := by
  have py := top_par (m := m) y0 y1
  have px := top_par (m := m) x0 x1
  have hx := (top_rng (m := m) x0 x1).2
  have hx0 := (top_rng (m := m) x0 x1).1
  unfold curF
  have : (topM m y (2 * (hh : Int)) < Y ∨ (topM m y (2 * (hh : Int)) = Y ∧ topM m x (2 * (ww : Int)) < X)) ↔ (topM m y (2 * (hh : Int)) < Y + 2 ∨ (topM m y (2 * (hh : Int)) = Y + 2 ∧ topM m x (2 * (ww : Int)) < p)) := by omega
  simp only [this]
theorem cur_first {hh ww : Nat} {c m : Int} {r : List Int} {f : Int → Int → Int} {y x : Int} (y0 : 0 ≤ y) (y1 : y < 2 * (hh : Int)) (x0 : 0 ≤ x) (x1 : x < 2 * (ww : Int)) : curF (2 * (hh : Int)) (2 * (ww : Int)) c r m f (m % 2) (m % 2) y x = f y x := by
  have py := top_par (m := m) y0 y1
  have px := top_par (m := m) x0 x1
  have hy0 := (top_rng (m := m) y0 y1).1
  have hx0 := (top_rng (m := m) x0 x1).1
  unfold curF
  rw [if_neg (by omega)]
theorem cur_last {hh ww : Nat} {c m : Int} {r : List Int} {f : Int → Int → Int} {Y X y x : Int} (hY : 2 * (hh : Int) ≤ Y) (y0 : 0 ≤ y) (y1 : y < 2 * (hh : Int)) : curF (2 * (hh : Int)) (2 * (ww : Int)) c r m f Y X y x = stepF (2 * (hh : Int)) (2 * (ww : Int)) c r m f y x := by
  have hy := (top_rng (m := m) y0 y1).2
  unfold curF
  rw [if_pos (.inl (by omega))]

/-! ### ranges by twos -/
theorem rgc2 {p : Int} {hh : Nat} (h0 : 0 ≤ p) (h1 : p ≤ 1) (hp : 1 ≤ hh) (hq : hh ≤ 1000) : RgC p (2 * (hh : Int)) 2 hh := by
  have e : Builtin.Range.rangeSize p (2 * (hh : Int)) 2 = hh := by
    unfold Builtin.Range.rangeSize
    rw [if_pos (by decide), if_pos (by omega)]
    omega
  refine ⟨by decide, by decide, ?_, e⟩
  have fit : ∀ i : Int, -1000000 ≤ i → i ≤ 1000000 → Builtin.Range.rangeFitsLong i = true := fun i a b => Bool.and_eq_true_iff.mpr ⟨decide_eq_true (by omega), decide_eq_true (by omega)⟩
  unfold Builtin.Range.small
  rw [e, fit p (by omega) (by omega), fit (2 * (hh : Int)) (by omega) (by omega), fit 2 (by omega) (by omega), fit (hh : Int) (by omega) (by omega), if_pos (show (2 : Int) > 0 by decide), fit (2 * (hh : Int) + (2 - 1)) (by omega) (by omega)]
  simp
section
variable {K : PySem.W.Frag} {σ : L2.St} {H H' : Hp} {ta tb tc td te tx ty to : TE} {t u : TT} {x y z v : V} {P : V → Hp → Prop} {D : Ends} {tu tw tz : TS}
theorem go_forR3 {ta : TA} {j n : Nat} {lo hi c : Int} (h : EvA ta σ H [.int lo, .int hi, .int c]) (hn : RgC lo hi c n) (Pv : Nat → L2.St → Hp → Prop) (h0 : ∀ H1, Ex H H1 → Pv 0 σ H1)
    (hs : ∀ (i : Nat) σ' H', i < n → Pv i σ' H' → Go tu { D with nx := Pv (i + 1), ct := Pv (i + 1), bk := tz D } (σ'.set j (some (.int (lo + (i : Int) * c)))) H') (hd : ∀ σ' H', Pv n σ' H' → Go tz D σ' H') : Go (tSeq (tFor (iRng3 ta) (gName j) tu) tz) D σ H :=
  fun H1 e => h H1 e _ fun H2 e2 => ⟨lo, hi, c, n, rfl, hn, for_rangeC (D := { D with nx := tz D }) Pv (h0 H2 (e.trans e2)) (fun i σ' H' hi p => (hs i σ' H' hi p).at) (fun σ' H' p => (hd σ' H' p).at)⟩
theorem gl_forR3 {ta : TA} {j n : Nat} {lo hi c : Int} (h : EvA ta σ H [.int lo, .int hi, .int c]) (hn : RgC lo hi c n) (Pv : Nat → L2.St → Hp → Prop) (h0 : ∀ H1, Ex H H1 → Pv 0 σ H1)
    (hs : ∀ (i : Nat) σ' H', i < n → Pv i σ' H' → Go tu { D with nx := Pv (i + 1), ct := Pv (i + 1), bk := D.nx } (σ'.set j (some (.int (lo + (i : Int) * c)))) H') (hd : ∀ σ' H', Pv n σ' H' → GoN D σ' H') : Go (tFor (iRng3 ta) (gName j) tu) D σ H :=
  fun H1 e => h H1 e _ fun H2 e2 => ⟨lo, hi, c, n, rfl, hn, for_rangeC Pv (h0 H2 (e.trans e2)) (fun i σ' H' hi p => (hs i σ' H' hi p).at) (fun σ' H' p => hd σ' H' p H' (Ex.refl H'))⟩

/-! ### a list of lists -/
def Grid (H : Hp) (g : Addr) (as : List Addr) (h w : Nat) (cur : Int → Int → Int) : Prop :=
  H g = some (.lst (as.map V.ref)) ∧ as.length = h ∧ as.Nodup ∧ g ∉ as ∧ ∀ (i : Nat) (a : Addr), as[i]? = some a → H a = some (.lst ((rowOf w (cur (i : Int))).map V.int))
theorem Grid.up {g : Addr} {as : List Addr} {h w : Nat} {cur : Int → Int → Int} (e : Ex H H') (G : Grid H g as h w cur) : Grid H' g as h w cur :=
  ⟨e _ _ G.1, G.2.1, G.2.2.1, G.2.2.2.1, fun i a ha => e _ _ (G.2.2.2.2 i a ha)⟩
theorem rowOf_congr {w : Nat} {f g : Int → Int} (h : ∀ x : Int, 0 ≤ x → x < w → f x = g x) : rowOf w f = rowOf w g := by
  unfold rowOf
  apply List.map_congr_left
  intro i hi
  have := List.mem_range.mp hi
  exact h _ (by omega) (by omega)
theorem Grid.congr {g : Addr} {as : List Addr} {h w : Nat} {c1 c2 : Int → Int → Int} (e : ∀ y x : Int, 0 ≤ y → y < h → 0 ≤ x → x < w → c1 y x = c2 y x) (G : Grid H g as h w c1) : Grid H g as h w c2 :=
  ⟨G.1, G.2.1, G.2.2.1, G.2.2.2.1, fun i a ha => by
    rw [G.2.2.2.2 i a ha, rowOf_congr fun x x0 x1 => e i x (by omega) (by have := (List.getElem?_eq_some_iff.mp ha).1; rw [G.2.1] at this; omega) x0 x1]⟩
theorem rowOf_set {w : Nat} {f : Int → Int} {x v : Int} (h0 : 0 ≤ x) (h1 : x < w) : (rowOf w f).set x.toNat v = rowOf w fun b => if b = x then v else f b := by
  apply List.ext_getElem
  · rw [List.length_set, len_rowOf, len_rowOf]
  · intro i h2 h3
    have e1 : (rowOf w fun b => if b = x then v else f b)[i] = if (i : Int) = x then v else f i := by simp only [rowOf, List.getElem_map, List.getElem_range]
    have e2 : (rowOf w f)[i]'(by rw [List.length_set] at h2; exact h2) = f i := by unfold rowOf; simp
    rw [List.getElem_set, e1, e2]
    by_cases e : x.toNat = i
    · rw [if_pos e, if_pos (by omega)]
    · rw [if_neg e, if_neg (by omega)]
theorem Grid.set {g : Addr} {as : List Addr} {h w : Nat} {cur : Int → Int → Int} {y x v : Int} {a : Addr} (G : Grid H g as h w cur) (ha : as[y.toNat]? = some a) (y0 : 0 ≤ y) (y1 : y < h) (x0 : 0 ≤ x) (x1 : x < w) :
    Grid (upd H a (.lst (((rowOf w (cur y)).map V.int).set x.toNat (.int v)))) g as h w (updF cur y x v) := by
  obtain ⟨g1, g2, g3, g4, g5⟩ := G
  have hma : a ∈ as := List.mem_iff_getElem?.mpr ⟨_, ha⟩
  refine ⟨by rw [upd_ne (show g ≠ a from fun z => g4 (z ▸ hma))]; exact g1, g2, g3, g4, fun i b hb => ?_⟩
  by_cases e : b = a
  · subst e
    have hi : i = y.toNat := nd_ix g3 hb ha
    rw [upd_same, ← List.map_set, rowOf_set x0 x1]
    refine congrArg (fun l => some (HO.lst (List.map V.int l))) (rowOf_congr fun b b0 b1 => ?_)
    unfold updF
    have : (i : Int) = y := by omega
    rw [this]
    simp only [true_and]
  · rw [upd_ne e, g5 i b hb]
    have hne : (i : Int) ≠ y := fun z => e (by
      have : i = y.toNat := by omega
      rw [this, ha] at hb
      exact (Option.some.inj hb).symm)
    refine congrArg (fun l => some (HO.lst (List.map V.int l))) (rowOf_congr fun b b0 b1 => ?_)
    unfold updF
    rw [if_neg (fun z => hne z.1)]
/-- rows[y][x] = v -/
theorem gl_grid {g : Addr} {as : List Addr} {h w : Nat} {cur : Int → Int → Int} {y x v : Int} (G : Grid H g as h w cur) (hv : Ev te σ H (.int v)) (hg : Ev to σ H (.ref g)) (hy : Ev ty σ H (.int y)) (hx : Ev tx σ H (.int x)) (y0 : 0 ≤ y) (y1 : y < h) (x0 : 0 ≤ x) (x1 : x < w)
    (k : ∀ H1 H2, Ex H H1 → (∀ b o, b ∉ as → H1 b = some o → H2 b = some o) → ExI H H2 → Grid H2 g as h w (updF cur y x v) → GoN D σ H2) : Go (tAsg te (gSub (tOp (rIxL K) to ty) tx rSetL)) D σ H := by
  have hlt : y.toNat < as.length := by rw [G.2.1]; omega
  have ha : as[y.toNat]? = some as[y.toNat] := List.getElem?_eq_getElem hlt
  have hl := G.2.2.2.2 _ _ ha
  rw [show ((y.toNat : Nat) : Int) = y by omega] at hl
  have hat : atI (as.map V.ref) y = some (.ref as[y.toNat]) := by
    obtain ⟨j, rfl⟩ := Int.eq_ofNat_of_zero_le y0
    refine atI_nat ?_
    rw [List.getElem?_map]
    have ha2 : as[j]? = some as[((j : Int)).toNat] := ha
    rw [ha2]
    rfl
  refine gl_setL hl hv (ev_ixL hg hy (sq_of G.1) hat) hx x0 (by rw [List.length_map, len_rowOf]; exact x1) fun H1 e1 => ?_
  refine k H1 _ e1 (fun b o hb ho => ?_) (ExI.upd' (ExI.of e1) (e1 _ _ hl)) ((G.up e1).set ha y0 y1 x0 x1)
  rw [upd_ne (show b ≠ as[y.toNat] from fun z => hb (z ▸ List.getElem_mem hlt))]
  exact ho
theorem go_grid {g : Addr} {as : List Addr} {h w : Nat} {cur : Int → Int → Int} {y x v : Int} (G : Grid H g as h w cur) (hv : Ev te σ H (.int v)) (hg : Ev to σ H (.ref g)) (hy : Ev ty σ H (.int y)) (hx : Ev tx σ H (.int x)) (y0 : 0 ≤ y) (y1 : y < h) (x0 : 0 ≤ x) (x1 : x < w)
    (k : ∀ H1 H2, Ex H H1 → (∀ b o, b ∉ as → H1 b = some o → H2 b = some o) → ExI H H2 → Grid H2 g as h w (updF cur y x v) → Go tz D σ H2) : Go (tSeq (tAsg te (gSub (tOp (rIxL K) to ty) tx rSetL)) tz) D σ H := gl_grid (D := { D with nx := tz D }) G hv hg hy hx y0 y1 x0 x1 k
theorem ev_lenG {g : Addr} {as : List Addr} {h w : Nat} {cur : Int → Int → Int} (G : Grid H g as h w cur) (hg : Ev to σ H (.ref g)) : Ev (tCB (rLenS K) (tCons to tNil)) σ H (.int (h : Int)) := by
  have := ev_lenL (K := K) hg (sq_of G.1)
  rwa [List.length_map, G.2.1] at this
theorem ev_wideG {g : Addr} {as : List Addr} {h w : Nat} {cur : Int → Int → Int} (G : Grid H g as h w cur) (h0 : 0 < h) (hg : Ev to σ H (.ref g)) (hy : Ev ty σ H (.int 0)) : Ev (tCB (rLenS K) (tCons (tOp (rIxL K) to ty) tNil)) σ H (.int (w : Int)) := by
  have hlt : 0 < as.length := by rw [G.2.1]; exact h0
  have ha : as[0]? = some as[0] := List.getElem?_eq_getElem hlt
  have hat : atI (as.map V.ref) ((0 : Nat) : Int) = some (.ref as[0]) := atI_nat (by rw [List.getElem?_map, ha]; rfl)
  have := ev_lenL (K := K) (ev_ixL (K := K) hg hy (sq_of G.1) hat) (sq_of (G.2.2.2.2 _ _ ha))
  rwa [List.length_map, len_rowOf] at this
/-- [list(row) for row in board] -/
theorem elg_T {v : V} {f : Int → Int → Int} {h w : Nat} {tl : TE} {j : Nat} {vs : List Nat} (hb : BdV K (mk h w f) v H) (hh : h ≤ 1000) (hl : Ev tl σ H v) (hw : ∀ x, wipe ((wipe σ vs).set j (some x)) vs = wipe σ vs)
    (he : ∀ x, ((wipe σ vs).set j (some x))[j]? = some (some x)) :
    ∀ H1, Ex H H1 → ∀ Q : VK, (∀ g as H2, H1 g = none → Ex H1 H2 → (∀ a ∈ as, H1 a = none) → Grid H2 g as h w f → Q (.ref g) H2) → tLc (iTup K tl) (gName j) tYes (tCB (rListS K) (tCons (tVar j) tNil)) vs σ H1 Q := by
  intro H1 e Q q
  obtain ⟨p, xs, rfl, hs, hlen, hr⟩ := hb
  rw [len_mk] at hlen
  refine hl H1 e _ fun H2 e2 => ⟨p, rfl, ⟨xs, ex_t (e.trans e2) hs⟩, fun Dl hD => ?_⟩
  refine lc_tup (xs := xs) (fun i H' => H2 Dl = none ∧ Ex H2 H' ∧ ∃ as : List Addr, as.length = i ∧ H' Dl = some (.lst (as.map V.ref)) ∧ as.Nodup ∧ Dl ∉ as ∧ (∀ a ∈ as, H2 a = none) ∧ ∀ (k : Nat) (a : Addr), as[k]? = some a → H' a = some (.lst ((rowOf w (f (k : Int))).map V.int)))
    ⟨hD, Ex.new hD, [], rfl, upd_same, List.nodup_nil, by simp, by simp, fun k a hk => by cases hk⟩ (fun i H' _ p => ex_t ((e.trans e2).trans p.2.1) hs) (fun i x H' hi ⟨p1, p2, as, p3, p4, p5, p6, p7, p8⟩ => ⟨hw x, ?_⟩) (fun H' ⟨p1, p2, as, p3, p4, p5, p6, p7, p8⟩ => ?_)
  · have hil : i < h := by rw [← hlen]; exact (List.getElem?_eq_some_iff.mp hi).1
    obtain ⟨b, rfl, hb⟩ := hr i x _ hi (mk_get hil)
    refine ⟨.ref b, he _, b, _, rfl, .inr (ex_t ((e.trans e2).trans p2) hb), fun l hl => ?_⟩
    have nl : l ≠ Dl := fun z => by rw [z, p4] at hl; cases hl
    have nla : l ∉ as := fun z => by
      obtain ⟨k, hk⟩ := List.mem_iff_getElem?.mp z
      rw [p8 k l hk] at hl
      cases hl
    have hl2 : H2 l = none := fresh_back p2 hl
    refine ⟨as.map V.ref, by rw [upd_ne nl.symm]; exact p4, sz_lt (by rw [List.length_map]; omega), p1, Ex.mut (p2.trans (Ex.new hl)) p1, as ++ [l], by rw [List.length_append, p3]; rfl, ?_, ?_, ?_, ?_, ?_⟩
    · rw [upd_same, List.map_append]
      rfl
    · rw [List.nodup_append]
      refine ⟨p5, by simp, fun a ha b hb => ?_⟩
      have : b = l := by simpa using hb
      rw [this]
      exact fun z => nla (z ▸ ha)
    · simp only [List.mem_append, List.mem_singleton, not_or]
      exact ⟨p6, nl.symm⟩
    · intro a ha
      rcases List.mem_append.mp ha with ha | ha
      · exact p7 a ha
      · rw [List.mem_singleton.mp ha]
        exact hl2
    · intro k a hk
      rcases Nat.lt_or_ge k as.length with hlt | hge
      · rw [List.getElem?_append_left hlt] at hk
        have hma : a ∈ as := List.mem_iff_getElem?.mpr ⟨k, hk⟩
        rw [upd_ne (show a ≠ Dl from fun z => p6 (z ▸ hma)), upd_ne (show a ≠ l from fun z => nla (z ▸ hma))]
        exact p8 k a hk
      · rw [List.getElem?_append_right hge] at hk
        have hk0 : k = i := by
          have := (List.getElem?_eq_some_iff.mp hk).1
          simp only [List.length_singleton] at this
          omega
        subst hk0
        rw [p3, Nat.sub_self] at hk
        have : a = l := (Option.some.inj hk).symm
        subst this
        rw [upd_ne nl, upd_same]
  · exact q Dl as H' (fresh_back e2 p1) (e2.trans p2) (fun a ha => fresh_back e2 (p7 a ha)) ⟨p4, by rw [p3, hlen], p5, p6, p8⟩
/-- tuple([tuple(row) for row in rows]) of lists -/
theorem ep_gridT {g : Addr} {as : List Addr} {h w : Nat} {cur : Int → Int → Int} {tl : TE} {j : Nat} {vs : List Nat} (G : Grid H g as h w cur) (hh : h ≤ 1000) (hl : Ev tl σ H (.ref g)) (hw : ∀ x, wipe ((wipe σ vs).set j (some x)) vs = wipe σ vs)
    (he : ∀ x, ((wipe σ vs).set j (some x))[j]? = some (some x)) : EvP (tCB (rTupS K) (tCons (tLc (iList K tl) (gName j) tYes (tCB (rTupS K) (tCons (tVar j) tNil)) vs) tNil)) σ H (BdV K (mk h w cur)) := by
  obtain ⟨g1, g2, g3, g4, g5⟩ := G
  refine ep_weak (ep_tupLP (n := (as.map V.ref).length) (P := fun i => RwV K (rowOf w (cur (i : Int)))) (fun i => rw_imm _ |>.mono) (elp_L (fun i => rw_imm _) hl (sq_of g1) (by rw [List.length_map]; omega) hw fun i x hi => ?_)) fun v H1 _ hp => ?_
  · rw [List.getElem?_map] at hi
    obtain ⟨a, ha, rfl⟩ := Option.map_eq_some_iff.mp hi
    exact ep_U (eu_tupV (ev_var (he _)) (sq_of (g5 i a ha))) fun p H1 _ hp => ⟨p, rfl, st_of hp⟩
  · rw [List.length_map, g2] at hp
    exact bd_of hp
/-- tuple([tuple(row) for row in board]) of tuples -/
theorem ep_boardT {v : V} {f : Int → Int → Int} {h w : Nat} {tl : TE} {j : Nat} {vs : List Nat} (hb : BdV K (mk h w f) v H) (hh : h ≤ 1000) (hl : Ev tl σ H v) (hw : ∀ x, wipe ((wipe σ vs).set j (some x)) vs = wipe σ vs)
    (he : ∀ x, ((wipe σ vs).set j (some x))[j]? = some (some x)) : EvP (tCB (rTupS K) (tCons (tLc (iTup K tl) (gName j) tYes (tCB (rTupS K) (tCons (tVar j) tNil)) vs) tNil)) σ H (BdV K (mk h w f)) := by
  obtain ⟨p, xs, rfl, hs, hlen, hr⟩ := hb
  rw [len_mk] at hlen
  refine ep_weak (ep_tupLP (n := xs.length) (P := fun i => RwV K (rowOf w (f (i : Int)))) (fun i => rw_imm _ |>.mono) (elp_T (fun i => rw_imm _) hl hs (by omega) hw fun i x hi => ?_)) fun v H1 _ hp => ?_
  · obtain ⟨a, rfl, ha⟩ := hr i x _ hi (mk_get (by rw [← hlen]; exact (List.getElem?_eq_some_iff.mp hi).1))
    exact ep_of (eu_tupT (ev_var (he _)) ha) fun H1 e1 => ⟨a, rfl, ex_t e1 ha⟩
  · rw [hlen] at hp
    exact bd_of hp
theorem ex_keep {H0 H1 H2 : Hp} {as : List Addr} (hf : ∀ a ∈ as, H0 a = none) (e : Ex H0 H1) (k : ∀ b o, b ∉ as → H1 b = some o → H2 b = some o) : Ex H0 H2 := fun x u hx => k x u (fun z => by rw [hf x z] at hx; cases hx) (e x u hx)
theorem go_asgG {v : V} {f : Int → Int → Int} {h w : Nat} {tl : TE} {i j : Nat} {vs : List Nat} (hb : BdV K (mk h w f) v H) (hh : h ≤ 1000) (hl : Ev tl σ H v) (hw : ∀ x, wipe ((wipe σ vs).set j (some x)) vs = wipe σ vs) (he : ∀ x, ((wipe σ vs).set j (some x))[j]? = some (some x))
    (k : ∀ g as H1, H g = none → Ex H H1 → (∀ a ∈ as, H a = none) → Grid H1 g as h w f → Go tz D (σ.set i (some (.ref g))) H1) : Go (tSeq (tAsg (tLc (iTup K tl) (gName j) tYes (tCB (rListS K) (tCons (tVar j) tNil)) vs) (gName i)) tz) D σ H :=
  fun H1 e => elg_T hb hh hl hw he H1 e (fun x H2 => tz D (σ.set i (some x)) H2) fun g as H2 hg e2 hf G => k g as H2 (fresh_back e hg) (e.trans e2) (fun a ha => fresh_back e (hf a ha)) G H2 (Ex.refl H2)
end
/-- a board and a rule as they are handed in -/
structure BArg (K : PySem.W.Frag) (H : Hp) (v : V) (a : Addr) (hh ww : Nat) (c : Int) (r : List Int) (f : Int → Int → Int) : Prop where
  h1 : 1 ≤ hh
  h2 : hh ≤ 8
  w1 : 1 ≤ ww
  w2 : ww ≤ 8
  c0 : 2 ≤ c
  c1 : c ≤ 3
  hB : BdV K (mk (2 * hh) (2 * ww) f) v H
  bd : Bnd (2 * hh) (2 * ww) c f
  hR : SqL K H a (r.map V.int)
  hr : IsRule (n4 c) r
theorem BArg.up {K : PySem.W.Frag} {H H' : Hp} {v : V} {a : Addr} {hh ww : Nat} {c : Int} {r : List Int} {f : Int → Int → Int} (e : Ex H H') (A : BArg K H v a hh ww c r f) : BArg K H' v a hh ww c r f :=
  ⟨A.h1, A.h2, A.w1, A.w2, A.c0, A.c1, A.hB.up e, A.bd, ex_l e A.hR, A.hr⟩
/-- the board behind so many steps -/
def runF (h w c : Int) (r : List Int) (m : Int) : Nat → (Int → Int → Int) → Int → Int → Int
  | 0, f => f
  | n + 1, f => stepF h w c r (m + n) (runF h w c r m n f)
def backF (h w c : Int) (r : List Int) (m : Int) : Nat → (Int → Int → Int) → Int → Int → Int
  | 0, f => f
  | n + 1, f => stepF h w c (backL r) (m - 1 - n) (backF h w c r m n f)
theorem bnd_run {hh ww : Nat} {c m : Int} {r : List Int} {f : Int → Int → Int} (c0 : 2 ≤ c) (h : Bnd (2 * hh) (2 * ww) c f) : ∀ n, Bnd (2 * hh) (2 * ww) c (runF (2 * (hh : Int)) (2 * (ww : Int)) c r m n f)
  | 0 => h
  | n + 1 => fun y x _ _ _ _ => block_rng _ c0 _
theorem bnd_back {hh ww : Nat} {c m : Int} {r : List Int} {f : Int → Int → Int} (c0 : 2 ≤ c) (h : Bnd (2 * hh) (2 * ww) c f) : ∀ n, Bnd (2 * hh) (2 * ww) c (backF (2 * (hh : Int)) (2 * (ww : Int)) c r m n f)
  | 0 => h
  | n + 1 => fun y x _ _ _ _ => block_rng _ c0 _
/-- rows so far -/
def RwsV (K : PySem.W.Frag) (B : List (List Int)) (vs : List V) (H : Hp) : Prop := vs.length = B.length ∧ ∀ (i : Nat) (u : V) (r : List Int), vs[i]? = some u → B[i]? = some r → RwV K r u H
theorem RwsV.imm {K : PySem.W.Frag} {B : List (List Int)} {vs : List V} {H H' : Hp} (e : ExI H H') (h : RwsV K B vs H) : RwsV K B vs H' := ⟨h.1, fun i u r h1 h2 => rw_imm r u H H' e (h.2 i u r h1 h2)⟩
theorem RwsV.snoc {K : PySem.W.Frag} {B : List (List Int)} {vs : List V} {H : Hp} {r : List Int} {u : V} (h : RwsV K B vs H) (hr : RwV K r u H) : RwsV K (B ++ [r]) (vs ++ [u]) H := by
  refine ⟨by rw [List.length_append, List.length_append, h.1]; rfl, fun i u' r' h1 h2 => ?_⟩
  rcases Nat.lt_or_ge i vs.length with hi | hi
  · rw [List.getElem?_append_left hi] at h1
    rw [List.getElem?_append_left (by rw [← h.1]; exact hi)] at h2
    exact h.2 i u' r' h1 h2
  · rw [List.getElem?_append_right hi] at h1
    rw [List.getElem?_append_right (by rw [← h.1]; exact hi)] at h2
    rw [← h.1] at h2
    have h0 : i - vs.length = 0 := by
      have := (List.getElem?_eq_some_iff.mp h1).1
      simp only [List.length_singleton] at this
      omega
    rw [h0] at h1 h2
    rw [← Option.some.inj h1, ← Option.some.inj h2]
    exact hr
theorem int_bool (k : Bool) : -18446744073709551616 < (if k then (1 : Int) else 0) ∧ (if k then (1 : Int) else 0) < 18446744073709551616 := by cases k <;> decide
end BT
namespace BT
open PySem PySem.Spec PyProof.Rows L2 Evl
/-! ### steps undone (plain) -/
def EqOn (hh ww : Nat) (f g : Int → Int → Int) : Prop := ∀ y x : Int, 0 ≤ y → y < 2 * (hh : Int) → 0 ≤ x → x < 2 * (ww : Int) → f y x = g y x
theorem EqOn.refl {hh ww : Nat} (f : Int → Int → Int) : EqOn hh ww f f := fun _ _ _ _ _ _ => rfl
theorem EqOn.symm {hh ww : Nat} {f g : Int → Int → Int} (h : EqOn hh ww f g) : EqOn hh ww g f := fun y x a b c d => (h y x a b c d).symm
theorem EqOn.trans {hh ww : Nat} {f g k : Int → Int → Int} (h : EqOn hh ww f g) (h2 : EqOn hh ww g k) : EqOn hh ww f k := fun y x a b c d => (h y x a b c d).trans (h2 y x a b c d)
theorem mk_eq {hh ww : Nat} {f g : Int → Int → Int} (h : EqOn hh ww f g) : mk (2 * hh) (2 * ww) f = mk (2 * hh) (2 * ww) g := mk_congr fun y x a b c d => h y x a (by omega) c (by omega)
theorem mk_eq_iff {hh ww : Nat} {f g : Int → Int → Int} : mk (2 * hh) (2 * ww) f = mk (2 * hh) (2 * ww) g ↔ EqOn hh ww f g := ⟨fun e y x a b c d => mk_inj e a (by omega) c (by omega), mk_eq⟩
theorem low_rng {Y : Int} {hh : Nat} (h0 : 0 ≤ Y) (h1 : Y < 2 * (hh : Int)) : 0 ≤ (Y + 1) % (2 * (hh : Int)) ∧ (Y + 1) % (2 * (hh : Int)) < 2 * (hh : Int) ∧ (Y + 1) % (2 * (hh : Int)) ≠ Y := by
  rw [succ_mod h0 h1]
  split <;> omega
theorem step_congr {hh ww : Nat} {c m : Int} {r : List Int} {f g : Int → Int → Int} (e : EqOn hh ww f g) : EqOn hh ww (stepF (2 * (hh : Int)) (2 * (ww : Int)) c r m f) (stepF (2 * (hh : Int)) (2 * (ww : Int)) c r m g) := by
  intro y x y0 y1 x0 x1
  obtain ⟨t0, t1⟩ := top_rng (m := m) y0 y1
  obtain ⟨l0, l1⟩ := top_rng (m := m) x0 x1
  obtain ⟨a0, a1, _⟩ := low_rng t0 t1
  obtain ⟨b0, b1, _⟩ := low_rng l0 l1
  unfold stepF
  rw [e _ _ t0 t1 l0 l1, e _ _ t0 t1 b0 b1, e _ _ a0 a1 l0 l1, e _ _ a0 a1 b0 b1]
theorem bnd_eq {hh ww : Nat} {c : Int} {f g : Int → Int → Int} (e : EqOn hh ww f g) (h : Bnd (2 * hh) (2 * ww) c f) : Bnd (2 * hh) (2 * ww) c g := fun y x a b p q => by
  rw [← e y x a (by omega) p (by omega)]
  exact h y x a b p q
/-- a block's number, by its upper left cell -/
def numF (h w c : Int) (f : Int → Int → Int) (Y X : Int) : Int := numM [f Y X, f Y ((X + 1) % w), f ((Y + 1) % h) X, f ((Y + 1) % h) ((X + 1) % w)] c
theorem step_at {hh ww : Nat} {c m : Int} {r : List Int} {f : Int → Int → Int} {Y X y x : Int} (hY0 : 0 ≤ Y) (hY1 : Y < 2 * (hh : Int)) (hX0 : 0 ≤ X) (hX1 : X < 2 * (ww : Int)) (pY : (Y - m) % 2 = 0) (pX : (X - m) % 2 = 0)
    (hy : y = Y ∨ y = (Y + 1) % (2 * (hh : Int))) (hx : x = X ∨ x = (X + 1) % (2 * (ww : Int))) :
    stepF (2 * (hh : Int)) (2 * (ww : Int)) c r m f y x = at0 (blockM (at0 r (numF (2 * (hh : Int)) (2 * (ww : Int)) c f Y X)) c) ((if y = Y then 0 else 2) + if x = X then 0 else 1) := by
  obtain ⟨a0, a1, _⟩ := low_rng hY0 hY1
  obtain ⟨b0, b1, _⟩ := low_rng hX0 hX1
  have y0 : 0 ≤ y ∧ y < 2 * (hh : Int) := by rcases hy with rfl | rfl <;> omega
  have x0 : 0 ≤ x ∧ x < 2 * (ww : Int) := by rcases hx with rfl | rfl <;> omega
  have ty := (top_iff y0.1 y0.2 hY0 hY1 pY).mpr hy
  have tx := (top_iff x0.1 x0.2 hX0 hX1 pX).mpr hx
  unfold stepF numF
  rw [ty, tx]
theorem num_block {n c : Int} (h0 : 2 ≤ c) (h1 : c ≤ 3) (hn : 0 ≤ n) (hm : n < c * c * c * c) : numM (blockM n c) c = n := by
  have e : numM (blockM n c) c = (((0 * c + n / c / c / c % c) * c + n / c / c % c) * c + n / c % c) * c + n % c := rfl
  rw [e]
  rcases col_four h0 h1 with ⟨rfl, e2⟩ | ⟨rfl, e2⟩
  · rw [e2] at hm; omega
  · rw [e2] at hm; omega
theorem block_num {a b d e c : Int} (c0 : 2 ≤ c) (c1 : c ≤ 3) (ha : 0 ≤ a ∧ a < c) (hb : 0 ≤ b ∧ b < c) (hd : 0 ≤ d ∧ d < c) (he : 0 ≤ e ∧ e < c) : blockM (numM [a, b, d, e] c) c = [a, b, d, e] := by
  rw [numM4]
  unfold blockM
  rcases (show c = 2 ∨ c = 3 by omega) with rfl | rfl
  · rw [show ((((0 * 2 + a) * 2 + b) * 2 + d) * 2 + e) / 2 / 2 / 2 % 2 = a by omega, show ((((0 * 2 + a) * 2 + b) * 2 + d) * 2 + e) / 2 / 2 % 2 = b by omega, show ((((0 * 2 + a) * 2 + b) * 2 + d) * 2 + e) / 2 % 2 = d by omega, show ((((0 * 2 + a) * 2 + b) * 2 + d) * 2 + e) % 2 = e by omega]
  · rw [show ((((0 * 3 + a) * 3 + b) * 3 + d) * 3 + e) / 3 / 3 / 3 % 3 = a by omega, show ((((0 * 3 + a) * 3 + b) * 3 + d) * 3 + e) / 3 / 3 % 3 = b by omega, show ((((0 * 3 + a) * 3 + b) * 3 + d) * 3 + e) / 3 % 3 = d by omega, show ((((0 * 3 + a) * 3 + b) * 3 + d) * 3 + e) % 3 = e by omega]
theorem numF_rng {hh ww : Nat} {c : Int} {f : Int → Int → Int} {Y X : Int} (c0 : 2 ≤ c) (c1 : c ≤ 3) (hb : Bnd (2 * hh) (2 * ww) c f) (hY0 : 0 ≤ Y) (hY1 : Y < 2 * (hh : Int)) (hX0 : 0 ≤ X) (hX1 : X < 2 * (ww : Int)) :
    0 ≤ numF (2 * (hh : Int)) (2 * (ww : Int)) c f Y X ∧ numF (2 * (hh : Int)) (2 * (ww : Int)) c f Y X < (n4 c : Int) := by
  obtain ⟨a0, a1, _⟩ := low_rng hY0 hY1
  obtain ⟨b0, b1, _⟩ := low_rng hX0 hX1
  rw [(n4_int c0 c1).1]
  exact num_rng c0 c1 (hb _ _ hY0 (by omega) hX0 (by omega)) (hb _ _ hY0 (by omega) b0 (by omega)) (hb _ _ a0 (by omega) hX0 (by omega)) (hb _ _ a0 (by omega) b0 (by omega))
theorem numF_block {hh ww : Nat} {c : Int} {f : Int → Int → Int} {Y X : Int} (c0 : 2 ≤ c) (c1 : c ≤ 3) (hb : Bnd (2 * hh) (2 * ww) c f) (hY0 : 0 ≤ Y) (hY1 : Y < 2 * (hh : Int)) (hX0 : 0 ≤ X) (hX1 : X < 2 * (ww : Int)) :
    blockM (numF (2 * (hh : Int)) (2 * (ww : Int)) c f Y X) c = [f Y X, f Y ((X + 1) % (2 * (ww : Int))), f ((Y + 1) % (2 * (hh : Int))) X, f ((Y + 1) % (2 * (hh : Int))) ((X + 1) % (2 * (ww : Int)))] := by
  obtain ⟨a0, a1, _⟩ := low_rng hY0 hY1
  obtain ⟨b0, b1, _⟩ := low_rng hX0 hX1
  exact block_num c0 c1 (hb _ _ hY0 (by omega) hX0 (by omega)) (hb _ _ hY0 (by omega) b0 (by omega)) (hb _ _ a0 (by omega) hX0 (by omega)) (hb _ _ a0 (by omega) b0 (by omega))
/-- the number of a block behind a step -/
theorem numF_step {hh ww : Nat} {c m : Int} {r : List Int} {f : Int → Int → Int} {Y X : Int} (c0 : 2 ≤ c) (c1 : c ≤ 3) (hr : IsRule (n4 c) r) (hb : Bnd (2 * hh) (2 * ww) c f) (hY0 : 0 ≤ Y) (hY1 : Y < 2 * (hh : Int)) (hX0 : 0 ≤ X) (hX1 : X < 2 * (ww : Int)) (pY : (Y - m) % 2 = 0) (pX : (X - m) % 2 = 0) :
    numF (2 * (hh : Int)) (2 * (ww : Int)) c (stepF (2 * (hh : Int)) (2 * (ww : Int)) c r m f) Y X = at0 r (numF (2 * (hh : Int)) (2 * (ww : Int)) c f Y X) := by
  obtain ⟨_, _, a2⟩ := low_rng hY0 hY1
  obtain ⟨_, _, b2⟩ := low_rng hX0 hX1
  obtain ⟨n0, n1⟩ := numF_rng c0 c1 hb hY0 hY1 hX0 hX1
  obtain ⟨r0, r1⟩ := hr.at n0 n1
  rw [(n4_int c0 c1).1] at r1
  have s := fun y x hy hx => step_at (c := c) (r := r) (f := f) (y := y) (x := x) hY0 hY1 hX0 hX1 pY pX hy hx
  have e := num_block c0 c1 r0 r1
  generalize numF (2 * (hh : Int)) (2 * (ww : Int)) c f Y X = n at *
  show numM [_, _, _, _] c = _
  rw [s Y X (.inl rfl) (.inl rfl), s Y _ (.inl rfl) (.inr rfl), s _ X (.inr rfl) (.inl rfl), s _ _ (.inr rfl) (.inr rfl), if_pos rfl, if_pos rfl, if_neg a2, if_neg b2]
  exact e
/-- the cell (y, x) in its block -/
theorem cell_at {hh ww : Nat} {m : Int} {f : Int → Int → Int} {y x : Int} (y0 : 0 ≤ y) (y1 : y < 2 * (hh : Int)) (x0 : 0 ≤ x) (x1 : x < 2 * (ww : Int)) :
    at0 [f (topM m y (2 * (hh : Int))) (topM m x (2 * (ww : Int))), f (topM m y (2 * (hh : Int))) ((topM m x (2 * (ww : Int)) + 1) % (2 * (ww : Int))), f ((topM m y (2 * (hh : Int)) + 1) % (2 * (hh : Int))) (topM m x (2 * (ww : Int))), f ((topM m y (2 * (hh : Int)) + 1) % (2 * (hh : Int))) ((topM m x (2 * (ww : Int)) + 1) % (2 * (ww : Int)))]
      ((if y = topM m y (2 * (hh : Int)) then 0 else 2) + if x = topM m x (2 * (ww : Int)) then 0 else 1) = f y x := by
  obtain ⟨t0, t1⟩ := top_rng (m := m) y0 y1
  obtain ⟨l0, l1⟩ := top_rng (m := m) x0 x1
  have hy := (top_iff y0 y1 t0 t1 (top_par y0 y1)).mp rfl
  have hx := (top_iff x0 x1 l0 l1 (top_par x0 x1)).mp rfl
  generalize topM m y (2 * (hh : Int)) = t at *
  generalize topM m x (2 * (ww : Int)) = l at *
  obtain ⟨_, _, a2⟩ := low_rng t0 t1
  obtain ⟨_, _, b2⟩ := low_rng l0 l1
  rcases hy with ey | ey <;> rcases hx with ex | ex
  · rw [if_pos ey, if_pos ex, ey, ex]; rfl
  · rw [if_pos ey, if_neg (by omega), ey, ex]; rfl
  · rw [if_neg (by omega), if_pos ex, ey, ex]; rfl
  · rw [if_neg (by omega), if_neg (by omega), ey, ex]; rfl
theorem step_back {hh ww : Nat} {c m : Int} {r : List Int} {f : Int → Int → Int} (c0 : 2 ≤ c) (c1 : c ≤ 3) (hr : IsRule (n4 c) r) (hb : Bnd (2 * hh) (2 * ww) c f) :
    EqOn hh ww (stepF (2 * (hh : Int)) (2 * (ww : Int)) c (backL r) m (stepF (2 * (hh : Int)) (2 * (ww : Int)) c r m f)) f := by
  intro y x y0 y1 x0 x1
  obtain ⟨t0, t1⟩ := top_rng (m := m) y0 y1
  obtain ⟨l0, l1⟩ := top_rng (m := m) x0 x1
  have py := top_par (m := m) y0 y1
  have px := top_par (m := m) x0 x1
  have hy := (top_iff y0 y1 t0 t1 py).mp rfl
  have hx := (top_iff x0 x1 l0 l1 px).mp rfl
  rw [step_at t0 t1 l0 l1 py px hy hx, numF_step c0 c1 hr hb t0 t1 l0 l1 py px]
  obtain ⟨n0, n1⟩ := numF_rng c0 c1 hb t0 t1 l0 l1
  rw [back_at hr n0 n1, numF_block c0 c1 hb t0 t1 l0 l1]
  exact cell_at y0 y1 x0 x1
theorem back_step {hh ww : Nat} {c m : Int} {r : List Int} {f : Int → Int → Int} (c0 : 2 ≤ c) (c1 : c ≤ 3) (hr : IsRule (n4 c) r) (hb : Bnd (2 * hh) (2 * ww) c f) :
    EqOn hh ww (stepF (2 * (hh : Int)) (2 * (ww : Int)) c r m (stepF (2 * (hh : Int)) (2 * (ww : Int)) c (backL r) m f)) f := by
  have := step_back (m := m) c0 c1 (isRule_back hr) hb
  rwa [back_back hr] at this
theorem run_congr {hh ww : Nat} {c m : Int} {r : List Int} {f g : Int → Int → Int} (e : EqOn hh ww f g) : ∀ n, EqOn hh ww (runF (2 * (hh : Int)) (2 * (ww : Int)) c r m n f) (runF (2 * (hh : Int)) (2 * (ww : Int)) c r m n g)
  | 0 => e
  | n + 1 => step_congr (run_congr e n)
theorem backF_congr {hh ww : Nat} {c m : Int} {r : List Int} {f g : Int → Int → Int} (e : EqOn hh ww f g) : ∀ n, EqOn hh ww (backF (2 * (hh : Int)) (2 * (ww : Int)) c r m n f) (backF (2 * (hh : Int)) (2 * (ww : Int)) c r m n g)
  | 0 => e
  | n + 1 => step_congr (backF_congr e n)
theorem back_run {hh ww : Nat} {c m : Int} {r : List Int} {f : Int → Int → Int} (c0 : 2 ≤ c) (c1 : c ≤ 3) (hr : IsRule (n4 c) r) (hb : Bnd (2 * hh) (2 * ww) c f) (N : Nat) :
    ∀ k, k ≤ N → EqOn hh ww (backF (2 * (hh : Int)) (2 * (ww : Int)) c r (m + N) k (runF (2 * (hh : Int)) (2 * (ww : Int)) c r m N f)) (runF (2 * (hh : Int)) (2 * (ww : Int)) c r m (N - k) f)
  | 0, _ => EqOn.refl _
  | k + 1, hk => by
    have ih := back_run c0 c1 hr hb N k (by omega) (m := m)
    obtain ⟨j, hj⟩ : ∃ j, N - k = j + 1 := ⟨N - k - 1, by omega⟩
    rw [show N - (k + 1) = j by omega]
    rw [hj] at ih
    refine (step_congr ih).trans ?_
    rw [show m + (N : Int) - 1 - (k : Int) = m + (j : Int) by omega]
    exact step_back c0 c1 hr (bnd_run c0 hb j)
theorem run_back {hh ww : Nat} {c m : Int} {r : List Int} {f : Int → Int → Int} (c0 : 2 ≤ c) (c1 : c ≤ 3) (hr : IsRule (n4 c) r) (hb : Bnd (2 * hh) (2 * ww) c f) (N : Nat) :
    ∀ k, k ≤ N → EqOn hh ww (runF (2 * (hh : Int)) (2 * (ww : Int)) c r (m - N) k (backF (2 * (hh : Int)) (2 * (ww : Int)) c r m N f)) (backF (2 * (hh : Int)) (2 * (ww : Int)) c r m (N - k) f)
  | 0, _ => EqOn.refl _
  | k + 1, hk => by
    have ih := run_back c0 c1 hr hb N k (by omega) (m := m)
    obtain ⟨j, hj⟩ : ∃ j, N - k = j + 1 := ⟨N - k - 1, by omega⟩
    rw [show N - (k + 1) = j by omega]
    rw [hj] at ih
    refine (step_congr ih).trans ?_
    rw [show m - (N : Int) + (k : Int) = m - 1 - (j : Int) by omega]
    exact back_step c0 c1 hr (bnd_back c0 hb j)
theorem run_add {h w c m : Int} {r : List Int} {f : Int → Int → Int} (a : Nat) : ∀ b : Nat, runF h w c r (m + a) b (runF h w c r m a f) = runF h w c r m (a + b) f
  | 0 => rfl
  | b + 1 => by
    show stepF h w c r (m + a + b) (runF h w c r (m + a) b (runF h w c r m a f)) = stepF h w c r (m + ((a + b : Nat) : Int)) (runF h w c r m (a + b) f)
    rw [run_add a b, show m + (a : Int) + (b : Int) = m + ((a + b : Nat) : Int) by omega]
/-- the rule back, run as a rule -/
theorem run_backL {h w c m : Int} {r : List Int} {f : Int → Int → Int} : runF h w c (backL r) (m - 1) 1 f = backF h w c r m 1 f := by
  show stepF h w c (backL r) (m - 1 + ((0 : Nat) : Int)) f = stepF h w c (backL r) (m - 1 - ((0 : Nat) : Int)) f
  rw [show m - 1 + ((0 : Nat) : Int) = m - 1 - ((0 : Nat) : Int) by omega]
end BT
namespace BT
open PySem PySem.Spec PyProof.Rows L2 Evl
/-! ### own errors -/
structure ErrAt (K : PySem.W.Frag) (mg : Str → Option Value) (x : Str) (C : Addr) : Prop where
  nP : PySem.W.nsIn K mainGlobals x = some (some (.ref C))
  gP : mg x = some (.ref C)
  xP : PySem.W.excIn K C [.type "ValueError", .type "Exception", .type "BaseException", .type "object"] "ValueError.__new__" = true
  kP : PySem.W.keepIn K (.ref C) = true
  bP : PySem.W.subIn K (.ref C) (.type "BaseException") = some true
  vP : PySem.W.subIn K (.ref C) (.type "ValueError") = some true
  tP : PySem.W.typeIn K (.ref C) = some (.type "type")
  iP : PySem.W.isClsIn K C = true
  sP : PySem.W.subIn K (.ref C) (.ref C) = some true
  E : ExcC K C
/-- an error by name may leave -/
def RaiseE (K : PySem.W.Frag) (x : Str) (H : Hp) (E : XK) : Prop := ∀ C, PySem.W.nsIn K mainGlobals x = some (some (.ref C)) → ∀ H1, Ex H H1 → E (.ref C) none H1
/-- .. may not leave (where no error is raised) -/
def RaiseC (K : PySem.W.Frag) (x : Str) (H : Hp) (E : XK) : Prop := ∀ C, PySem.W.nsIn K mainGlobals x = some (some (.ref C)) → ∀ H1, Ex H H1 → False
section
variable {K : PySem.W.Frag} {mg : Str → Option Value} {x y : Str} {C D : Addr} {cls : Value} {b : Bool}
theorem RaiseE.up {H H' : Hp} {E : XK} (e : Ex H H') (h : RaiseE K x H E) : RaiseE K x H' E := fun C hC H1 e1 => h C hC H1 (e.trans e1)
theorem ErrAt.same {C2 : Addr} (G : ErrAt K mg x C) (h : PySem.W.nsIn K mainGlobals x = some (some (.ref C2))) : C2 = C := by
  have := h.symm.trans G.nP
  exact Value.ref.inj (Option.some.inj (Option.some.inj this))
theorem ErrAt.kit (G : ErrAt K mg x C) (h : PySem.W.subIn K cls (.ref C) = some b) : PySem.W.kitCls K cls (.ref C) = some b := by
  unfold PySem.W.kitCls
  have h1 := G.iP
  unfold PySem.W.isClsIn at h1
  dsimp only
  rw [if_pos (by rw [h1, G.tP]; rfl)]
  exact h
theorem ErrAt.exm (G : ErrAt K mg x C) (h : PySem.W.subIn K cls (.ref C) = some b) : PySem.W.exmOne K cls (.ref C) = some b := by
  unfold PySem.W.exmOne
  rw [if_pos (by rw [G.bP]; rfl)]
  exact G.kit h
theorem ErrAt.exmSelf (G : ErrAt K mg x C) : PySem.W.exmOne K (.ref C) (.ref C) = some true := G.exm G.sP
theorem kit_self : PySem.W.kitOne K (.ref C) (.ref C) = some true := by
  unfold PySem.W.kitOne
  rw [if_pos (by simp)]
theorem ErrAt.ne (G : ErrAt K mg x C) (h : PySem.W.subIn K (.ref D) (.ref C) = some false) : D ≠ C := fun z => by
  rw [z, G.sP] at h
  cases h
theorem ErrAt.kitF (G : ErrAt K mg x C) (h : PySem.W.subIn K (.ref D) (.ref C) = some false) : PySem.W.kitOne K (.ref D) (.ref C) = some false := by
  unfold PySem.W.kitOne
  rw [if_neg (by simpa using G.ne h)]
  exact G.kit h
theorem ErrAt.kitO (G : ErrAt K mg x C) (hne : D ≠ C) (h : PySem.W.subIn K (.ref D) (.ref C) = some b) : PySem.W.kitOne K (.ref D) (.ref C) = some b := by
  unfold PySem.W.kitOne
  rw [if_neg (by simpa using hne)]
  exact G.kit h
theorem ErrAt.kitV (G : ErrAt K mg x C) : PySem.W.kitOne K (.ref C) (.type "ValueError") = some true := by
  unfold PySem.W.kitOne
  rw [if_neg (by simp)]
  show (if PySem.W.kitMeta "ValueError" = true then PySem.W.subIn K (.ref C) (.type "ValueError") else none) = some true
  rw [if_pos (by decide +kernel)]
  exact G.vP
/-- isinstance(e, c), e any exception that the suite holds -/
def rIsX (K : PySem.W.Frag) (cls : Value) (d : Option Addr) (a : Addr) : List V → Hp → VK → Prop := fun xs H Q => ∃ D, cls = .ref D ∧ d = none ∧ ExcC K D ∧ rIsE K D a xs H Q
theorem call_isX {X : Cx} {a : Addr} {oe : Obj} {d : Option Addr} {pn : List (Addr × Obj)} (hz : Zc cls d oe) (hf : ∃ vs, oe.data = .fields vs) : CallR (X.suite a ((a, oe) :: pn)) (.builtin "isinstance") (rIsX X.K cls d a) := by
  intro pins s σ H xs us Q I r h
  obtain ⟨D, rfl, rfl, hE, h⟩ := h
  exact call_isE hE hz hf pins s σ H xs us Q I r h
end
section
variable {K : PySem.W.Frag} {σ : L2.St} {H H' : Hp} {ta tb te tx : TE} {t u : TT} {x y z v : V} {P : V → Hp → Prop} {D : Ends} {tu tw tz : TS}
theorem ev_isX {a C : Addr} {c : V} {cv : Value} {b : Bool} (ha : Ev ta σ H (.ref a)) (hb : Ev tb σ H c) (hE : ExcC K C) (hc : ∀ u, RelV c u → u = cv) (hk : PySem.W.kitOne K (.ref C) cv = some b) : Ev (tCB (rIsX K (.ref C) none a) (tCons ta (tCons tb tNil))) σ H (.bl b) :=
  fun H1 e Q q => ha H1 e _ fun H2 e2 => hb H2 (e.trans e2) _ fun H3 e3 => ⟨C, rfl, rfl, hE, c, cv, b, rfl, hc, hk, q H3 (e2.trans e3)⟩
/-! lists of bools -/
theorem dpBl : ∀ (bs : List Bool), DpAll K H (bs.map V.bl) (bs.map PyData.bool)
  | [] => .nil
  | b :: r => .cons (.bl b) (dpBl r)
theorem eqvBl : ∀ (ns ms : List Bool), PyData.eqvAll (ns.map PyData.bool) (ms.map PyData.bool) = decide (ns = ms)
  | [], [] => rfl
  | [], _ :: _ => rfl
  | _ :: _, [] => rfl
  | a :: r, b :: s => by
    show (PyData.eqv (.bool a) (.bool b) && PyData.eqvAll (r.map PyData.bool) (s.map PyData.bool)) = _
    rw [eqvBl r s]
    cases a <;> cases b <;> by_cases h2 : r = s <;> simp [h2, PyData.eqv]
theorem layBl : ∀ (ns : List Bool), PyData.canLayAll0 (ns.map PyData.bool) = true ∧ PyData.depthAll (ns.map PyData.bool) ≤ 1
  | [] => ⟨rfl, by simp [PyData.depthAll]⟩
  | n :: r => by
    obtain ⟨h1, h2⟩ := layBl r
    refine ⟨?_, ?_⟩
    · simp [PyData.canLayAll0, PyData.canLay0, h1]
    · simp only [List.map_cons, PyData.depthAll, PyData.depth]
      omega
theorem shaped_bl (r : List Bool) : SeqAt.shaped (.list (r.map PyData.bool)) = true := by
  obtain ⟨h1, h2⟩ := layBl r
  unfold SeqAt.shaped
  simp only [PyData.canLay0, PyData.depth, h1, Bool.true_and]
  exact decide_eq_true (by omega)
theorem rv_eqBs {p q : Addr} {ns ms : List Bool} (h1 : SqL K H p (ns.map V.bl)) (h2 : SqL K H q (ms.map V.bl)) : RV (rEqD K) (.ref p) (.ref q) H (.bl (decide (ns = ms))) :=
  fun H1 e Q k => ⟨_, _, .lst (ex_l e h1) (dpBl ns), .lst (ex_l e h2) (dpBl ms), shaped_bl ns, shaped_bl ms, by rw [PyData.eqv, eqvBl]; exact k H1 (Ex.refl H1)⟩
theorem ev_eqBs {p : Addr} {ns ms : List Bool} (ha : Ev ta σ H (.ref p)) (h : SqL K H p (ns.map V.bl)) (hb : EvL tb σ H (ms.map V.bl)) : Ev (tOp (rEqD K) ta tb) σ H (.bl (decide (ns = ms))) :=
  ev_opL ha hb fun q H1 hq e => rv_eqBs (ex_l e h) (sq_of hq)
/-- what a call that may raise promises: a value of which P holds, or an error of which R holds -/
def SpX (sp : Sp) (vs : List V) (H : Hp) (P : V → Hp → Prop) (R : Value → Prop) : Prop := ∀ H1, Ex H H1 → ∀ (Q : VK) (E : XK), (∀ v H2, Ex H1 H2 → P v H2 → Q v H2) → (∀ cls H2, Ex H1 H2 → R cls → E cls none H2) → sp vs H1 Q E
theorem go_tryAs {i j : Nat} {c : Value} {ts : Addr → Value → Option Addr → TS} {Wout : WX} {sp : Sp} {ta : TA} {vs : List V} {R : Value → Prop} (h : EvA ta σ H vs) (hs : SpX sp vs H P R)
    (k1 : ∀ v H1, Ex H H1 → P v H1 → Go tz D (σ.set j (some v)) H1)
    (k2 : ∀ cls, R cls → PySem.W.exmOne K cls c = some true ∧ ∀ a H1, Ex H H1 → Go (ts a cls none) { nx := fun σ' H' => tz D (σ'.set i none) H', rt := D.rt, bk := fun σ' H' => D.bk (σ'.set i none) H', ct := fun σ' H' => D.ct (σ'.set i none) H' } (σ.set i (some (.ref a))) H1) :
    Go (tSeq (fun D σ H => tAsg (tCallS sp (WE (wAs K c i ts Wout D)) ta) (gName j) D σ H) tz) D σ H :=
  fun H1 e => h H1 e _ fun H2 e2 => hs H2 (e.trans e2) _ _ (fun v H3 e3 hp => k1 v H3 ((e.trans e2).trans e3) hp H3 (Ex.refl H3))
    (fun cls H3 e3 hr => ⟨true, (k2 cls hr).1, fun _ a _ => (k2 cls hr).2 a H3 ((e.trans e2).trans e3) H3 (Ex.refl H3), fun z => nomatch z⟩)
theorem gn_suite {i : Nat} {rt : VK} {bk ct : L2.St → Hp → Prop} (h : Go tz D (σ.set i none) H) : GoN { nx := fun σ' H' => tz D (σ'.set i none) H', rt := rt, bk := bk, ct := ct } σ H := fun H1 e => h H1 e
theorem go_tryAsD {i : Nat} {c : Value} {ts : Addr → Value → Option Addr → TS} {Wout : WX} {sp : Sp} {ta : TA} {vs : List V} {R : Value → Prop} (h : EvA ta σ H vs) (hs : SpX sp vs H P R)
    (k1 : ∀ v H1, Ex H H1 → P v H1 → Go tz D σ H1)
    (k2 : ∀ cls, R cls → PySem.W.exmOne K cls c = some true ∧ ∀ a H1, Ex H H1 → Go (ts a cls none) { nx := fun σ' H' => tz D (σ'.set i none) H', rt := D.rt, bk := fun σ' H' => D.bk (σ'.set i none) H', ct := fun σ' H' => D.ct (σ'.set i none) H' } (σ.set i (some (.ref a))) H1) :
    Go (tSeq (fun D σ H => tDrop (tCallS sp (WE (wAs K c i ts Wout D)) ta) D σ H) tz) D σ H :=
  fun H1 e => h H1 e _ fun H2 e2 => hs H2 (e.trans e2) _ _ (fun v H3 e3 hp => k1 v H3 ((e.trans e2).trans e3) hp H3 (Ex.refl H3))
    (fun cls H3 e3 hr => ⟨true, (k2 cls hr).1, fun _ a _ => (k2 cls hr).2 a H3 ((e.trans e2).trans e3) H3 (Ex.refl H3), fun z => nomatch z⟩)
theorem go_tryAsDP {i : Nat} {c : Value} {ts : Addr → Value → Option Addr → TS} {Wout : WX} {sp : Sp} {ta : TA} {S : List V → Hp → Prop} {R : Value → Prop} (h : EvAP ta σ H S) (hs : ∀ vs H1, Ex H H1 → S vs H1 → SpX sp vs H1 P R)
    (k1 : ∀ v H1, Ex H H1 → P v H1 → Go tz D σ H1)
    (k2 : ∀ cls, R cls → PySem.W.exmOne K cls c = some true ∧ ∀ a H1, Ex H H1 → Go (ts a cls none) { nx := fun σ' H' => tz D (σ'.set i none) H', rt := D.rt, bk := fun σ' H' => D.bk (σ'.set i none) H', ct := fun σ' H' => D.ct (σ'.set i none) H' } (σ.set i (some (.ref a))) H1) :
    Go (tSeq (fun D σ H => tDrop (tCallS sp (WE (wAs K c i ts Wout D)) ta) D σ H) tz) D σ H :=
  fun H1 e => h H1 e _ fun vs H2 e2 hS => hs vs H2 (e.trans e2) hS H2 (Ex.refl H2) _ _ (fun v H3 e3 hp => k1 v H3 ((e.trans e2).trans e3) hp H3 (Ex.refl H3))
    (fun cls H3 e3 hr => ⟨true, (k2 cls hr).1, fun _ a _ => (k2 cls hr).2 a H3 ((e.trans e2).trans e3) H3 (Ex.refl H3), fun z => nomatch z⟩)
theorem go_tryOnly {j : Nat} {c : Value} {ts : Addr → Value → Option Addr → TS} {Wout : WX} {sp : Sp} {ta : TA} {vs : List V} {R : Value → Prop} (h : EvA ta σ H vs) (hs : SpX sp vs H P R)
    (k1 : ∀ v H1, Ex H H1 → P v H1 → Go tz D (σ.set j (some v)) H1)
    (k2 : ∀ cls, R cls → PySem.W.exmOne K cls c = some true ∧ ∀ a H1, Ex H H1 → Go (ts a cls none) { D with nx := tz D } σ H1) :
    Go (tSeq (fun D σ H => tAsg (tCallS sp (WE (wOnly K c ts Wout D)) ta) (gName j) D σ H) tz) D σ H :=
  fun H1 e => h H1 e _ fun H2 e2 => hs H2 (e.trans e2) _ _ (fun v H3 e3 hp => k1 v H3 ((e.trans e2).trans e3) hp H3 (Ex.refl H3))
    (fun cls H3 e3 hr => ⟨true, (k2 cls hr).1, fun _ a _ => (k2 cls hr).2 a H3 ((e.trans e2).trans e3) H3 (Ex.refl H3), fun z => nomatch z⟩)
end
end BT
namespace BT
open PySem PySem.Spec PyProof.Rows L2 Evl
open PyProof.Rows (firstMet firstMet_succ firstMet_zero firstMet_length_le step_any step_length step_dedup)
/-! ### len(set(xs)), any ints -/
def metN (ns : List Int) (i : Nat) : List Int := firstMet (fun i => ns.getD i 0) i
def cntD (ns : List Int) : Nat := (metN ns ns.length).length
theorem metN_succ (ns : List Int) (i : Nat) : metN ns (i + 1) = step_dedup (metN ns i) (ns.getD i 0) := firstMet_succ _ i
theorem metN_mem (ns : List Int) : ∀ (j i : Nat), i < j → (metN ns j).any (· == ns.getD i 0) = true
  | 0, i, h => by omega
  | j + 1, i, h => by
    rw [metN_succ, step_any, Bool.or_eq_true]
    rcases Nat.lt_or_ge i j with h1 | h1
    · exact .inl (metN_mem ns j i h1)
    · exact .inr (decide_eq_true (by rw [show i = j by omega]))
theorem metN_len (ns : List Int) (i : Nat) : (metN ns (i + 1)).length = if (metN ns i).any (· == ns.getD i 0) then (metN ns i).length else (metN ns i).length + 1 := by rw [metN_succ, step_length]
theorem metN_le (ns : List Int) (i : Nat) : (metN ns i).length ≤ i := firstMet_length_le _ i
theorem metN_grow (ns : List Int) : ∀ (k i : Nat), (metN ns (i + k)).length ≤ (metN ns i).length + k
  | 0, i => Nat.le_refl _
  | k + 1, i => by
    have h1 := metN_grow ns k i
    have h2 := metN_len ns (i + k)
    rw [show i + (k + 1) = i + k + 1 by omega, h2]
    split <;> omega
theorem cntD_dup {ns : List Int} {i j : Nat} (h1 : i < j) (h2 : j < ns.length) (e : ns.getD i 0 = ns.getD j 0) : cntD ns < ns.length := by
  have g := metN_grow ns (ns.length - (j + 1)) (j + 1)
  rw [show j + 1 + (ns.length - (j + 1)) = ns.length by omega] at g
  have l := metN_len ns j
  rw [← e, if_pos (metN_mem ns j i h1)] at l
  have := metN_le ns j
  unfold cntD
  omega
theorem metN_full {ns : List Int} (h : ns.Nodup) : ∀ i, i ≤ ns.length → metN ns i = ns.take i
  | 0, _ => by rw [List.take_zero]; exact firstMet_zero _
  | i + 1, hi => by
    have hlt : i < ns.length := hi
    have e0 : ns.getD i 0 = ns[i] := by rw [List.getD_eq_getElem?_getD, List.getElem?_eq_getElem hlt]; rfl
    rw [metN_succ, metN_full h i (by omega), e0, List.take_succ, List.getElem?_eq_getElem hlt]
    unfold step_dedup
    rw [if_neg (fun z => ?_)]
    · rfl
    · obtain ⟨x, hx, e1⟩ := List.any_eq_true.mp z
      have e1 : x = ns[i] := beq_iff_eq.mp e1
      obtain ⟨k, hk, e2⟩ := List.getElem_of_mem hx
      rw [List.length_take] at hk
      rw [List.getElem_take] at e2
      exact List.pairwise_iff_getElem.mp h k i (by omega) hlt (by omega) (e2.trans e1)
theorem cntD_nodup {ns : List Int} (h : ns.Nodup) : cntD ns = ns.length := by
  unfold cntD
  rw [metN_full h _ (Nat.le_refl _), List.take_length]
section
variable {X : Cx}
def tLenSetN (K : PySem.W.Frag) (ta : TE) : TE := fun σ H Q => ta σ H fun x H1 => ∃ (l : Addr) (ns : List Int), x = V.ref l ∧ SqL K H1 l (ns.map V.int) ∧ ns.length ≤ 1000 ∧ Q (.int (cntD ns : Int)) H1
theorem pe_lenSetN {a : Expr} {ta : TE} {p p2 q pos : Pos} (hc : X.calm = true) (hg : Gl X "len") (hm : X.mg "len" = none) (hg2 : Gl X "set") (hm2 : X.mg "set" = none) (ha : PE X a ta)
    (na : starEach [a] X.env = (false, eval a X.env) :: starEach [] X.env := by rfl) : PE X (.Call (.Name "len" p) [.Call (.Name "set" p2) [a] [] q] [] pos) (tLenSetN X.K ta) := by
  constructor
  intro pins s σ H Q I h
  refine Call_ (ld_blt I hg hm PySem.boot_len ?_)
  refine PyProof.Rows.callWith_builtin1 (PyProof.Rows.args_cons ?_ rfl) rfl rfl
  refine Call_ (ld_blt I hg2 hm2 PyProof.Rows.boot_set ?_)
  refine PyProof.Rows.callWith_type1 (PyProof.Rows.args_cons (thn (ha.run pins s σ H _ I h) fun v s1 ⟨x, H1, I1, r1, q1⟩ => PyProof.Rows.args_nil ?_) na) na rfl
  obtain ⟨l, ns, rfl, hq, h1, q1⟩ := q1
  cases r1
  obtain ⟨its, r, pl, hz⟩ := I1.list hq
  have hl : its.toArray.size = ns.length := by rw [List.size_toArray, ← r.length, List.length_map]
  refine call_set_list (I1.ok.hd hc) pl.isList (ns := ns) (by simpa using r.ints) (by unfold scanBound; omega) fun h' tk hS hk => ?_
  rw [hl] at hS
  refine PyProof.Rows.args_nil ?_
  have hcn : cntD ns ≤ ns.length := metN_le ns _
  obtain ⟨o, es, ep, t, ho, hex, hd, _, _, _, hf, hn⟩ := hS
  have hn : es.size = cntD ns := hn
  have I2 : Inv X pins σ H1 { s1 with heap := h', toks := tk } := I1.kept fun b o e => hk b o (Heap.lt_size e) e
  refine call_len_set ho hex hd hf (by rw [hn]; omega) ⟨.int (cntD ns : Int), H1, I2.tok _, ⟨_, by rw [hn]⟩, q1⟩
end
section
variable {K : PySem.W.Frag} {σ : L2.St} {H H' : Hp} {ta tb te tx : TE} {t u : TT} {x y z v : V} {P : V → Hp → Prop} {D : Ends} {tu tw tz : TS}
theorem ev_lenSet {l : Addr} {ns : List Int} (ha : Ev ta σ H (.ref l)) (h : SqL K H l (ns.map V.int)) (hn : ns.length ≤ 1000) : Ev (tLenSetN K ta) σ H (.int (cntD ns : Int)) :=
  fun H1 e Q q => ha H1 e _ fun H2 e2 => ⟨l, ns, rfl, ex_l (e.trans e2) h, hn, q H2 e2⟩
theorem gl_popAt {l : Addr} {xs : List V} {i : Int} (hl : H l = some (.lst xs)) (ha : Ev ta σ H (.ref l)) (hi : Ev te σ H (.int i)) (h0 : 0 ≤ i) (h1 : i < (xs.length : Int)) (hz : xs.length < 100000)
    (k : ∀ H1, Ex H H1 → GoN D σ (upd H1 l (.lst (xs.eraseIdx i.toNat)))) : Go (tDrop (tBM K "list" rPopAt ta (tCons te tNil))) D σ H := by
  refine fun H1 e => ha H1 e _ fun H2 e2 => ⟨.inl ⟨rfl, xs, sq_of (e2 l _ (e l _ hl))⟩, hi H2 (e.trans e2) _ fun H3 e3 => ?_⟩
  have hlt : i.toNat < xs.length := by omega
  exact ⟨l, xs, i, i.toNat, xs[i.toNat], rfl, rfl, e3 _ _ (e2 l _ (e l _ hl)), by omega, by omega, (ixN_seq (ixN_int h0 h1)).1, List.getElem?_eq_getElem hlt, k H3 ((e.trans e2).trans e3) _ (Ex.refl _)⟩
theorem go_popAt {l : Addr} {xs : List V} {i : Int} (hl : H l = some (.lst xs)) (ha : Ev ta σ H (.ref l)) (hi : Ev te σ H (.int i)) (h0 : 0 ≤ i) (h1 : i < (xs.length : Int)) (hz : xs.length < 100000)
    (k : ∀ H1, Ex H H1 → Go tz D σ (upd H1 l (.lst (xs.eraseIdx i.toNat)))) : Go (tSeq (tDrop (tBM K "list" rPopAt ta (tCons te tNil))) tz) D σ H := gl_popAt (D := { D with nx := tz D }) hl ha hi h0 h1 hz k
theorem gl_pop {l : Addr} {xs : List V} (hl : H l = some (.lst xs)) (ha : Ev ta σ H (.ref l)) (h0 : xs ≠ []) (k : ∀ H1, Ex H H1 → GoN D σ (upd H1 l (.lst xs.dropLast))) : Go (tDrop (tBM0 K "list" rPop ta)) D σ H := by
  have hlt : xs.length - 1 < xs.length := by
    have := List.length_pos_iff.mpr h0
    omega
  exact fun H1 e => ha H1 e _ fun H2 e2 => ⟨.inl ⟨rfl, xs, sq_of (e2 l _ (e l _ hl))⟩, l, xs, xs[xs.length - 1], rfl, rfl, e2 l _ (e l _ hl), List.getElem?_eq_getElem hlt, k H2 (e.trans e2) _ (Ex.refl _)⟩
theorem mem_min {ns : List Int} (h : 0 < ns.length) : ∃ m, m ∈ ns ∧ ∀ y ∈ ns, m ≤ y := by
  induction ns with
  | nil => simp at h
  | cons a r ih =>
    cases r with
    | nil => exact ⟨a, by simp, by simp⟩
    | cons b r =>
      obtain ⟨m, h1, h2⟩ := ih (by simp)
      rcases Int.le_total a m with h3 | h3
      · exact ⟨a, by simp, fun y hy => by rcases List.mem_cons.mp hy with rfl | hy; exact Int.le_refl _; exact Int.le_trans h3 (h2 y hy)⟩
      · exact ⟨m, List.mem_cons_of_mem _ h1, fun y hy => by rcases List.mem_cons.mp hy with rfl | hy; exact h3; exact h2 y hy⟩
theorem mem_max {ns : List Int} (h : 0 < ns.length) : ∃ m, m ∈ ns ∧ ∀ y ∈ ns, y ≤ m := by
  induction ns with
  | nil => simp at h
  | cons a r ih =>
    cases r with
    | nil => exact ⟨a, by simp, by simp⟩
    | cons b r =>
      obtain ⟨m, h1, h2⟩ := ih (by simp)
      rcases Int.le_total m a with h3 | h3
      · exact ⟨a, by simp, fun y hy => by rcases List.mem_cons.mp hy with rfl | hy; exact Int.le_refl _; exact Int.le_trans (h2 y hy) h3⟩
      · exact ⟨m, List.mem_cons_of_mem _ h1, fun y hy => by rcases List.mem_cons.mp hy with rfl | hy; exact h3; exact h2 y hy⟩
/-- min(xs) >= 0, max(xs) < n -/
theorem et_minGe {l : Addr} {ns : List Int} (ha : Ev ta σ H (.ref l)) (h : SqL K H l (ns.map V.int)) (h0 : 0 < ns.length) (hb : Ev tb σ H (.int 0)) : EvT (tTest (tOp (rI0 fun i j => .bl (decide (j ≤ i))) (tCB (rMin K) (tCons ta tNil)) tb)) σ H (decide (∀ y ∈ ns, 0 ≤ y)) := by
  obtain ⟨m, hm, hle⟩ := mem_min h0
  refine et_test (ev_is (ev_op (x := .int m) (fun H1 e Q q => ha H1 e _ fun H2 e2 => ⟨l, ns, rfl, ex_l (e.trans e2) h, h0, fun m' hm' hle' => ?_⟩) hb rv_I0) ?_)
  · have : m' = m := Int.le_antisymm (hle' m hm) (hle m' hm')
    rw [this]
    exact q H2 e2
  · refine congrArg V.bl (decide_eq_decide.mpr ⟨fun z y hy => Int.le_trans z (hle y hy), fun z => z m hm⟩)
theorem et_maxLt {l : Addr} {ns : List Int} {n : Int} (ha : Ev ta σ H (.ref l)) (h : SqL K H l (ns.map V.int)) (h0 : 0 < ns.length) (hb : Ev tb σ H (.int n)) : EvT (tTest (tOp (rI0 fun i j => .bl (decide (i < j))) (tCB (rMax K) (tCons ta tNil)) tb)) σ H (decide (∀ y ∈ ns, y < n)) := by
  obtain ⟨m, hm, hle⟩ := mem_max h0
  refine et_test (ev_is (ev_op (x := .int m) (fun H1 e Q q => ha H1 e _ fun H2 e2 => ⟨l, ns, rfl, ex_l (e.trans e2) h, h0, fun m' hm' hle' => ?_⟩) hb rv_I0) ?_)
  · have : m' = m := Int.le_antisymm (hle m' hm') (hle' m hm)
    rw [this]
    exact q H2 e2
  · refine congrArg V.bl (decide_eq_decide.mpr ⟨fun z y hy => Int.lt_of_le_of_lt (hle y hy) z, fun z => z m hm⟩)
end
end BT
namespace BT
open PySem PySem.Spec PyProof.Rows L2 Evl
theorem mem_at0 {ns : List Int} {x : Int} (h : x ∈ ns) : ∃ j : Nat, j < ns.length ∧ x = at0 ns (j : Int) := by
  obtain ⟨j, hj, e⟩ := List.getElem_of_mem h
  refine ⟨j, hj, ?_⟩
  unfold at0
  rw [List.getD_eq_getElem?_getD, Int.toNat_natCast, List.getElem?_eq_getElem hj, ← e]
  rfl
end BT
namespace BT
open PySem PySem.Spec PyProof.Rows L2 Evl
/-! ### texts -/
section
variable {K : PySem.W.Frag} {σ : L2.St} {H H' : Hp} {ta tb te tx to : TE} {v : V}
theorem rv_addS {a b : Str} (h : a.length + b.length ≤ sizeLine) : RV (fun x y H Q => ∃ i j, x = V.str i ∧ y = V.str j ∧ i.length + j.length ≤ sizeLine ∧ Q (.str (i ++ j)) H) (.str a) (.str b) H (.str (a ++ b)) :=
  fun H1 e Q q => ⟨a, b, rfl, rfl, h, q H1 (Ex.refl H1)⟩
theorem ev_strI {i : Int} (ha : Ev ta σ H (.int i)) (h : i.natAbs.log2 < 1920) : Ev (tCB (fun xs H Q => ∃ i : Int, xs = [V.int i] ∧ i.natAbs.log2 < 1920 ∧ Q (.str (toString i)) H) (tCons ta tNil)) σ H (.str (toString i)) :=
  fun H1 e Q q => ha H1 e _ fun H2 e2 => ⟨i, rfl, h, q H2 e2⟩
theorem ev_intS {a : Str} {n : Int} (ha : Ev ta σ H (.str a)) (h : PySem.intText? a = some n) (hl : a.length ≤ 640) : Ev (tCB (fun xs H Q => ∃ (a : Str) (n : Int), xs = [V.str a] ∧ PySem.intText? a = some n ∧ a.length ≤ 640 ∧ Q (.int n) H) (tCons ta tNil)) σ H (.int n) :=
  fun H1 e Q q => ha H1 e _ fun H2 e2 => ⟨a, n, rfl, h, hl, q H2 e2⟩
theorem ev_lenS {a : Str} (ha : Ev ta σ H (.str a)) (h : a.length ≤ sizeLine) : Ev (tCB (fun xs H Q => ∃ z : Str, xs = [V.str z] ∧ z.length ≤ sizeLine ∧ Q (.int z.length) H) (tCons ta tNil)) σ H (.int a.length) :=
  fun H1 e Q q => ha H1 e _ fun H2 e2 => ⟨a, rfl, h, q H2 e2⟩
theorem rv_notInS {c : Nat} {z : Str} : RV rNotInS (.str ⟨#[c]⟩) (.str z) H (.bl (!decide (c ∈ z.cps.toList))) := fun H1 e Q q => ⟨c, z, rfl, rfl, q H1 (Ex.refl H1)⟩
theorem rv_ixS {z : Str} {i : Int} {c : Nat} (hl : z.length ≤ sizeLine) (h : atI z.cps.toList i = some c) : RV rIxS (.str z) (.int i) H (.str ⟨#[c]⟩) := fun H1 e Q q => ⟨z, i, c, rfl, rfl, hl, h, q H1 (Ex.refl H1)⟩
theorem ev_join {a : Str} {ys : List Str} (ho : Ev to σ H (.str a)) (he : EvL te σ H (ys.map V.str)) (h : (ys.map (·.length)).sum + ys.length * a.length ≤ 16777216) :
    Ev (tM1 (fun x xs H Q => ∃ a p, ∃ ys : List Str, x = V.str a ∧ xs = [.ref p] ∧ (SqL K H p (ys.map V.str) ∨ SqT K H p (ys.map V.str)) ∧ (ys.map (·.length)).sum + ys.length * a.length ≤ 16777216 ∧ Q (.str (Txt.join a ys)) H) to te) σ H (.str (Txt.join a ys)) :=
  fun H1 e Q q => ho H1 e _ fun H2 e2 => ⟨⟨a, rfl⟩, he H2 (e.trans e2) _ fun p H3 hp e3 h3 => ⟨a, p, ys, rfl, rfl, .inl (sq_of h3), h, q H3 (e2.trans e3)⟩⟩
theorem el_split {a b : Str} (ho : Ev to σ H (.str a)) (he : Ev te σ H (.str b)) (h : (b.length == 0) = false) (hl : a.length + 2 ≤ sizeLine) :
    EvL (tM1 (fun x xs H Q => ∃ a b, x = V.str a ∧ xs = [.str b] ∧ (b.length == 0) = false ∧ a.length + 2 ≤ sizeLine ∧ rNewStrs (Txt.split a b) H Q) to te) σ H ((Txt.split a b).map V.str) :=
  fun H1 e Q q => ho H1 e _ fun H2 e2 => ⟨⟨a, rfl⟩, he H2 (e.trans e2) _ fun H3 e3 => ⟨a, b, rfl, rfl, h, hl, fun p hp => q p _ (fresh_back (e2.trans e3) hp) ((e2.trans e3).trans (Ex.new hp)) upd_same⟩⟩
end
section
variable {X : Cx}
theorem pe_joinK {K : PySem.W.Frag} {o e : Expr} {to te : TE} {apos pos : Pos} (hK : X.K = K) (ho : PE X o to) (he : PE X e te) (hs : starEach [e] X.env = [(false, eval e X.env)] := by rfl) (hbase : attributeBase o "join" X.env (eval o X.env) = eval o X.env := by rfl) (hline : (apos.endLine == pos.line) = true := by rfl) :
    PE X (.Call (.Attribute o "join" apos) [e] [] pos) (tM1 (fun x xs H Q => ∃ a p, ∃ ys : List Str, x = V.str a ∧ xs = [.ref p] ∧ (SqL K H p (ys.map V.str) ∨ SqT K H p (ys.map V.str)) ∧ (ys.map (·.length)).sum + ys.length * a.length ≤ 16777216 ∧ Q (.str (Txt.join a ys)) H) to te) := by
  subst hK
  exact pe_join ho he hs hbase hline
end
end BT

namespace BT
open PySem PySem.Spec PyProof.Rows L2 Evl
theorem len_app (a b : Str) : (a ++ b).length = a.length + b.length := by
  exact Array.size_append ..
theorem strjoin_len (y : Str) : ∀ parts : List Str, (Str.join y parts).length ≤ (parts.map (·.length)).sum + parts.length * y.length
  | [] => by simp [Str.join]; rfl
  | [p] => by simp [Str.join]
  | p :: q :: r => by
    have ih := strjoin_len y (q :: r)
    show (p ++ y ++ Str.join y (q :: r)).length ≤ _
    rw [len_app, len_app]
    simp only [List.map_cons, List.sum_cons, List.length_cons] at *
    rw [Nat.succ_mul]
    omega
theorem join_len (y : Str) (parts : List Str) : (Txt.join y parts).length ≤ (parts.map (·.length)).sum + parts.length * y.length := by
  rw [TL.join_eq]
  exact strjoin_len y parts
theorem small_all : ((List.range 81).all fun n => decide ((toString ((n : Nat) : Int) : Str).length ≤ 2)) = true := by decide +kernel
theorem str_small {i : Int} (h0 : 0 ≤ i) (h1 : i < 81) : (toString i : Str).length ≤ 2 := by
  obtain ⟨n, rfl⟩ := Int.eq_ofNat_of_zero_le h0
  exact of_decide_eq_true (List.all_eq_true.mp small_all n (List.mem_range.mpr (by omega)))
end BT

namespace BT
open PySem PySem.Spec PyProof.Rows L2 Evl
theorem cut_snoc (xs : List V) (v : V) : cutV (xs ++ [v]) none (some (-1)) = xs := by
  have e1 : HT.sIx (xs ++ [v]).length 0 none = 0 := rfl
  have e2 : HT.sIx (xs ++ [v]).length (xs ++ [v]).length (some (-1)) = (-1 + ((xs ++ [v]).length : Int)).toNat := rfl
  unfold cutV
  rw [e1, e2, List.drop_zero, List.length_append]
  show (xs ++ [v]).take ((-1 + ((xs.length + 1 : Nat) : Int)).toNat - 0) = xs
  rw [show (-1 + ((xs.length + 1 : Nat) : Int)).toNat - 0 = xs.length by omega, List.take_left]
theorem atI_snoc (xs : List V) (v : V) : atI (xs ++ [v]) (-1) = some v := by
  unfold atI ixN
  rw [List.length_append]
  have e : xs.length + [v].length = xs.length + 1 := rfl
  rw [e, if_neg (by decide), if_pos (by omega), show ((-1 : Int) + ((xs.length + 1 : Nat) : Int)).toNat = xs.length by omega]
  show (xs ++ [v])[xs.length]? = some v
  simp
theorem app_empty (a : Str) : a ++ ("" : Str) = a := by
  show (⟨a.cps ++ #[]⟩ : Str) = a
  rw [Array.append_empty]
/-- lines, each with its end -/
theorem ends_join (n : Str) : ∀ ps : List Str, Str.join ("" : Str) (ps.map fun p => p ++ n) = Str.join n (ps ++ [("" : Str)])
  | [] => rfl
  | [p] => by
    show p ++ n = p ++ n ++ ("" : Str)
    rw [app_empty]
  | p :: q :: r => by
    have ih := ends_join n (q :: r)
    show p ++ n ++ ("" : Str) ++ Str.join ("" : Str) ((q :: r).map fun p => p ++ n) = p ++ n ++ Str.join n ((q :: r) ++ [("" : Str)])
    rw [ih, app_empty]
theorem nl_tl : TL.tl ("\n" : Str) = 10 :: [] := by decide
end BT

namespace BT
open PySem PySem.Spec PyProof.Rows L2 Evl
/-! ### loops over a text -/
theorem for_S {z : Str} {g : TG} {tb : TS} {D : Ends} {σ : L2.St} {H : Hp} (Pv : Nat → L2.St → Hp → Prop) (h0 : Pv 0 σ H)
    (hs : ∀ (i : Nat) (c : Nat) (σ : L2.St) (H : Hp), z.cps[i]? = some c → Pv i σ H → g (.str ⟨#[c]⟩) σ H fun σ2 H2 => tb { D with nx := Pv (i + 1), ct := Pv (i + 1), bk := D.nx } σ2 H2) (hd : ∀ σ H, Pv z.cps.size σ H → D.nx σ H) :
    ∃ W : Nat → Nat → L2.St → Hp → Prop, (∃ m, W 0 m σ H) ∧ ∀ i m σ H, W i m σ H →
      ((Its z).stop i H ∧ D.nx σ H) ∨ ((Its z).go i H ∧ ∃ N : L2.St → Hp → Prop, (∀ σ' H', N σ' H' → ∃ m', m' < m ∧ W (i + 1) m' σ' H') ∧ ∀ v H', (Its z).yld i H v H' → g v σ H' fun σ2 H2 => tb { D with nx := N, ct := N, bk := D.nx } σ2 H2) := by
  refine ⟨fun i m σ H => m = z.cps.size - i ∧ i ≤ z.cps.size ∧ Pv i σ H, ⟨z.cps.size, rfl, Nat.zero_le _, h0⟩, ?_⟩
  rintro i m σ H ⟨rfl, hi, p⟩
  by_cases hlt : i < z.cps.size
  · refine .inr ⟨hlt, Pv (i + 1), fun σ' H' p' => ⟨z.cps.size - (i + 1), by omega, rfl, hlt, p'⟩, fun v H' y => ?_⟩
    obtain ⟨e, c, hc, rfl⟩ := y
    subst e
    exact hs i c σ _ hc p
  · have e : i = z.cps.size := by omega
    subst e
    exact .inl ⟨Nat.le_refl _, hd σ H p⟩
theorem go_forS {z : Str} {tl : TE} {j : Nat} {σ : L2.St} {H : Hp} {D : Ends} {tu tz : TS} (h : Ev tl σ H (.str z)) (Pv : Nat → L2.St → Hp → Prop) (h0 : ∀ H1, Ex H H1 → Pv 0 σ H1)
    (hs : ∀ (i c : Nat) σ' H', z.cps[i]? = some c → Pv i σ' H' → Go tu { D with nx := Pv (i + 1), ct := Pv (i + 1), bk := tz D } (σ'.set j (some (.str ⟨#[c]⟩))) H') (hd : ∀ σ' H', Pv z.cps.size σ' H' → Go tz D σ' H') : Go (tSeq (tFor (iStr tl) (gName j) tu) tz) D σ H :=
  fun H1 e => h H1 e _ fun H2 e2 => ⟨z, rfl, for_S (D := { D with nx := tz D }) Pv (h0 H2 (e.trans e2)) (fun i c σ' H' hc p => (hs i c σ' H' hc p).at) (fun σ' H' p => (hd σ' H' p).at)⟩
end BT

namespace BT
open PySem PySem.Spec PyProof.Rows L2 Evl
/-! ### a comprehension over a text -/
theorem lc_S {z : Str} {g : TG} {tt : TT} {te : TE} {vs : List Nat} {σ : L2.St} {H1 : Hp} {D : Addr} {Qd : Hp → Prop} (Pv : Nat → Hp → Prop) (h0 : Pv 0 (upd H1 D (.lst [])))
    (hs : ∀ (i c : Nat) H, z.cps[i]? = some c → Pv i H → g (.str ⟨#[c]⟩) (wipe σ vs) H fun σ2 H2 => wipe σ2 vs = wipe σ vs ∧ tt σ2 H2 fun b H3 =>
      if b = true then te σ2 H3 fun y H4 => ∃ acc, H4 D = some (.lst acc) ∧ acc.length < sizeLine ∧ Pv (i + 1) (upd H4 D (.lst (acc ++ [y]))) else Pv (i + 1) H3) (hd : ∀ H, Pv z.cps.size H → Qd H) :
    ∃ W : Nat → Nat → Hp → Prop, (∃ m, W 0 m (upd H1 D (.lst []))) ∧ ∀ i m H, W i m H →
      ((Its z).stop i H ∧ Qd H) ∨ ((Its z).go i H ∧ ∃ Nx : Hp → Prop, (∀ H', Nx H' → ∃ m', m' < m ∧ W (i + 1) m' H') ∧ ∀ x H', (Its z).yld i H x H' → g x (wipe σ vs) H' fun σ2 H2 => wipe σ2 vs = wipe σ vs ∧ tt σ2 H2 fun b H3 =>
        if b = true then te σ2 H3 fun y H4 => ∃ acc, H4 D = some (.lst acc) ∧ acc.length < sizeLine ∧ Nx (upd H4 D (.lst (acc ++ [y]))) else Nx H3) := by
  refine ⟨fun i m H => m = z.cps.size - i ∧ i ≤ z.cps.size ∧ Pv i H, ⟨z.cps.size, rfl, Nat.zero_le _, h0⟩, ?_⟩
  rintro i m H ⟨rfl, hi, p⟩
  by_cases hlt : i < z.cps.size
  · refine .inr ⟨hlt, Pv (i + 1), fun H' p' => ⟨z.cps.size - (i + 1), by omega, rfl, hlt, p'⟩, fun v H' y => ?_⟩
    obtain ⟨e, c, hc, rfl⟩ := y
    subst e
    exact hs i c _ hc p
  · have e : i = z.cps.size := by omega
    subst e
    exact .inl ⟨Nat.le_refl _, hd H p⟩
theorem el_lcS {σ : L2.St} {H : Hp} {t : TT} {te : TE} {z : Str} {tl : TE} {j : Nat} {vs : List Nat} (f : Nat → Bool) (v : Nat → V) (h : Ev tl σ H (.str z)) (hz : z.cps.size ≤ 40000) (hw : ∀ x, wipe ((wipe σ vs).set j (some x)) vs = wipe σ vs)
    (ht : ∀ (i c : Nat) H1, Ex H H1 → z.cps[i]? = some c → EvT t ((wipe σ vs).set j (some (.str ⟨#[c]⟩))) H1 (f i)) (he : ∀ (i c : Nat) H1, Ex H H1 → z.cps[i]? = some c → f i = true → Ev te ((wipe σ vs).set j (some (.str ⟨#[c]⟩))) H1 (v i)) :
    EvL (tLc (iStr tl) (gName j) t te vs) σ H (given z.cps.size f v) := fun H0 e Q q => h H0 e _ fun H1 e1 => ⟨z, rfl, fun Dl hD =>
  lc_S (Cw H1 f v Dl) ⟨hD, Ex.new hD, upd_same⟩ (fun i c H' hi p => ⟨hw _, cw_turn p (by have := (Array.getElem?_eq_some_iff.mp hi).1; omega) (ht i c H1 (e.trans e1) hi) (fun hf => he i c H1 (e.trans e1) hi hf)⟩)
    (fun H' p => q Dl H' (fresh_back e1 p.1) (e1.trans p.2.1) p.2.2)⟩
end BT

namespace BT
open PySem PySem.Spec PyProof.Rows L2 Evl
/-! ### more of texts: lists over new lists, joins by their signs -/
section
variable {K : PySem.W.Frag} {σ : L2.St} {H H' : Hp} {te tl : TE} {P : V → Hp → Prop} {D : Ends} {tz : TS}
theorem elp_NL {xs : List V} {j : Nat} {vs : List Nat} {P : Nat → V → Hp → Prop} (m : ∀ i, Imm (P i)) (h : EvL tl σ H xs) (hz : xs.length ≤ 40000) (hw : ∀ x, wipe ((wipe σ vs).set j (some x)) vs = wipe σ vs)
    (he : ∀ (i : Nat) (x : V), xs[i]? = some x → EvP te ((wipe σ vs).set j (some x)) H (P i)) : EvLP (tLc (iList K tl) (gName j) tYes te vs) σ H xs.length P := fun H0 e Q q => h H0 e _ fun a H1 ha e1 hx => ⟨a, rfl, ⟨xs, sq_of hx⟩, fun Dl hD =>
  lc_list (xs := xs) (CwP H1 P Dl) ⟨hD, Ex.new hD, [], upd_same, rfl, fun k v hk => by cases hk⟩ (fun i H' _ p => sq_of (p.2.1 a _ hx))
    (fun i x H' hi p => ⟨hw x, cwP_turn m p (by have := (List.getElem?_eq_some_iff.mp hi).1; omega) ((he i x hi).mono (e.trans e1))⟩) (fun H' ⟨p1, p2, ws, p3, p4, p5⟩ => q Dl H' ws (fresh_back e1 p1) (e1.trans p2) p3 p4 p5)⟩
theorem el_is {xs ys : List V} (h : EvL te σ H xs) (e : xs = ys) : EvL te σ H ys := by rw [← e]; exact h
theorem go_dropP (h : EvP te σ H P) (k : ∀ H1, Ex H H1 → Go tz D σ H1) : Go (tSeq (tDrop te) tz) D σ H := fun H1 e => h H1 e _ fun v H2 e2 _ => k H2 (e.trans e2) H2 (Ex.refl H2)
/-- what a new list over a new list gives -/
theorem el_mapNL {xs : List V} {j : Nat} {vs : List Nat} (v : Nat → V) (h : EvL tl σ H xs) (hz : xs.length ≤ 40000) (hw : ∀ x, wipe ((wipe σ vs).set j (some x)) vs = wipe σ vs)
    (he : ∀ (i : Nat) (x : V) H1, Ex H H1 → xs[i]? = some x → Ev te ((wipe σ vs).set j (some x)) H1 (v i)) : EvL (tLc (iList K tl) (gName j) tYes te vs) σ H ((List.range xs.length).map v) := by
  have := el_lcNL (K := K) (t := tYes) (te := te) (fun _ => true) v h hz hw (fun _ _ _ _ _ => et_yes) (fun i x H1 e hi _ => he i x H1 e hi)
  rwa [given_all] at this
end
theorem app_assoc (a b c : Str) : a ++ b ++ c = a ++ (b ++ c) := by
  show (⟨a.cps ++ b.cps ++ c.cps⟩ : Str) = ⟨a.cps ++ (b.cps ++ c.cps)⟩
  rw [Array.append_assoc]
theorem mem_tl_app {a b : Str} {c : Nat} : c ∈ TL.tl (a ++ b) ↔ c ∈ TL.tl a ∨ c ∈ TL.tl b := by rw [TL.tl_append]; exact List.mem_append
theorem mem_join {y : Str} {c : Nat} : ∀ {ps : List Str}, c ∈ TL.tl (Str.join y ps) → c ∈ TL.tl y ∨ ∃ p ∈ ps, c ∈ TL.tl p
  | [], h => by simp [Str.join] at h; exact absurd h (by decide +revert)
  | [p], h => .inr ⟨p, by simp, h⟩
  | p :: q :: r, h => by
    have h : c ∈ TL.tl (p ++ y ++ Str.join y (q :: r)) := h
    rw [mem_tl_app, mem_tl_app] at h
    rcases h with (h | h) | h
    · exact .inr ⟨p, by simp, h⟩
    · exact .inl h
    · rcases mem_join h with h | ⟨z, hz, h⟩
      · exact .inl h
      · exact .inr ⟨z, List.mem_cons_of_mem _ hz, h⟩
theorem join_cons (y p : Str) {ps : List Str} (h : ps ≠ []) : Str.join y (p :: ps) = p ++ y ++ Str.join y ps := by
  cases ps with
  | nil => exact absurd rfl h
  | cons q r => rfl
/-- the signs of a number below 81 -/
theorem num_sig : ((List.range 81).all fun n => (TL.tl (toString ((n : Nat) : Int) : Str)).all fun c => decide (48 ≤ c) && decide (c ≤ 57)) = true := by decide +kernel
theorem num_sigs {i : Int} (h0 : 0 ≤ i) (h1 : i < 81) {c : Nat} (hc : c ∈ TL.tl (toString i : Str)) : 48 ≤ c ∧ c ≤ 57 := by
  obtain ⟨n, rfl⟩ := Int.eq_ofNat_of_zero_le h0
  have := List.all_eq_true.mp (List.all_eq_true.mp num_sig n (List.mem_range.mpr (by omega))) c hc
  simpa using this
end BT

namespace BT
open PySem PySem.Spec PyProof.Rows L2 Evl
theorem sumTx_le {b : Nat} : ∀ (ys : List Str), (∀ y ∈ ys, y.length ≤ b) → (ys.map (·.length)).sum ≤ ys.length * b
  | [], _ => by simp
  | y :: ys, h => by
    have h1 := h y (by simp)
    have h2 := sumTx_le ys fun z hz => h z (List.mem_cons_of_mem _ hz)
    simp only [List.map_cons, List.sum_cons, List.length_cons]
    rw [Nat.succ_mul]
    omega
theorem joinTx_le {b : Nat} (y : Str) (ps : List Str) (h : ∀ p ∈ ps, p.length ≤ b) : (Str.join y ps).length ≤ ps.length * b + ps.length * y.length :=
  Nat.le_trans (strjoin_len y ps) (Nat.add_le_add_right (sumTx_le ps h) _)
end BT
/-! ### the text -/
namespace BT
open PySem PySem.Spec PyProof.Rows L2 Evl
def topS (i : Nat) : Stmt := PySem.Challenge.pw_blockturn_k16_boards_and_rules_written.main.body.getD i (.Pass ⟨0, 0, 0, 0⟩)
abbrev s_looked : Stmt := topS 7
theorem sc_looked : FnScope ["rule", "colours", "many", "number"] ["rule", "colours"] (defScope s_looked) := ⟨rfl, rfl, rfl, by decide +kernel, rfl, by decide +kernel, by decide +kernel⟩
abbrev s_is_size : Stmt := topS 9
theorem sc_is_size : FnScope ["many"] ["many"] (defScope s_is_size) := ⟨rfl, rfl, rfl, by decide +kernel, rfl, by decide +kernel, by decide +kernel⟩
abbrev s_looked_board : Stmt := topS 10
theorem sc_looked_board : FnScope ["board", "colours", "row", "colour"] ["board", "colours"] (defScope s_looked_board) := ⟨rfl, rfl, rfl, by decide +kernel, rfl, by decide +kernel, by decide +kernel⟩
abbrev s_board_shown : Stmt := topS 13
theorem sc_board_shown : FnScope ["board", "row", "colour"] ["board"] (defScope s_board_shown) := ⟨rfl, rfl, rfl, by decide +kernel, rfl, by decide +kernel, by decide +kernel⟩
abbrev s_rule_shown : Stmt := topS 14
theorem sc_rule_shown : FnScope ["rule", "colours", "number"] ["rule", "colours"] (defScope s_rule_shown) := ⟨rfl, rfl, rfl, by decide +kernel, rfl, by decide +kernel, by decide +kernel⟩
abbrev s_lines_of : Stmt := topS 15
theorem sc_lines_of : FnScope ["text", "lines"] ["text"] (defScope s_lines_of) := ⟨rfl, rfl, rfl, by decide +kernel, rfl, by decide +kernel, by decide +kernel⟩
abbrev s_row_of : Stmt := topS 16
theorem sc_row_of : FnScope ["line", "sign"] ["line"] (defScope s_row_of) := ⟨rfl, rfl, rfl, by decide +kernel, rfl, by decide +kernel, by decide +kernel⟩
abbrev s_read_board : Stmt := topS 17
theorem sc_read_board : FnScope ["text", "colours", "board", "line"] ["text", "colours"] (defScope s_read_board) := ⟨rfl, rfl, rfl, by decide +kernel, rfl, by decide +kernel, by decide +kernel⟩
abbrev s_whole_of : Stmt := topS 18
theorem sc_whole_of : FnScope ["word", "sign"] ["word"] (defScope s_whole_of) := ⟨rfl, rfl, rfl, by decide +kernel, rfl, by decide +kernel, by decide +kernel⟩
abbrev s_read_rule : Stmt := topS 19
theorem sc_read_rule : FnScope ["text", "lines", "colours", "rule", "word"] ["text"] (defScope s_read_rule) := ⟨rfl, rfl, rfl, by decide +kernel, rfl, by decide +kernel, by decide +kernel⟩
abbrev s__law_cell_at : Stmt := topS 21
theorem sc__law_cell_at : FnScope ["script", "k"] ["script", "k"] (defScope s__law_cell_at) := ⟨rfl, rfl, rfl, by decide +kernel, rfl, by decide +kernel, by decide +kernel⟩
abbrev s__law_whole : Stmt := topS 22
theorem sc__law_whole : FnScope ["found"] ["found"] (defScope s__law_whole) := ⟨rfl, rfl, rfl, by decide +kernel, rfl, by decide +kernel, by decide +kernel⟩
abbrev s__law_rule_by : Stmt := topS 23
theorem sc__law_rule_by : FnScope ["cell", "colours", "k", "rest", "out", "a", "b"] ["cell", "colours"] (defScope s__law_rule_by) := ⟨rfl, rfl, rfl, by decide +kernel, rfl, by decide +kernel, by decide +kernel⟩
abbrev s__law_named : Stmt := topS 24
theorem sc__law_named : FnScope ["kind", "number", "bits", "three", "bit"] ["kind", "number"] (defScope s__law_named) := ⟨rfl, rfl, rfl, by decide +kernel, rfl, by decide +kernel, by decide +kernel⟩
abbrev s__law_board_by : Stmt := topS 25
theorem sc__law_board_by : FnScope ["cell", "width", "height", "colours", "rows", "y", "row", "x"] ["cell", "width", "height", "colours"] (defScope s__law_board_by) := ⟨rfl, rfl, rfl, by decide +kernel, rfl, by decide +kernel, by decide +kernel⟩
abbrev s__law_size : Stmt := topS 26
theorem sc__law_size : FnScope ["cell", "most"] ["cell"] (defScope s__law_size) := ⟨rfl, rfl, rfl, by decide +kernel, rfl, by decide +kernel, by decide +kernel⟩
abbrev s__law_is_board : Stmt := topS 27
theorem sc__law_is_board : FnScope ["found", "due", "row", "cell"] ["found", "due"] (defScope s__law_is_board) := ⟨rfl, rfl, rfl, by decide +kernel, rfl, by decide +kernel, by decide +kernel⟩
abbrev s_law : Stmt := topS 28
theorem sc_law : FnScope ["script", "colours", "rule", "width", "height", "board", "text", "row", "colour", "found", "turn", "told", "number"] ["script"] (defScope s_law) := ⟨rfl, rfl, rfl, by decide +kernel, rfl, by decide +kernel, by decide +kernel⟩
structure Bl (mg : Str → Option Value) : Prop where
  bool_ : mg "bool" = none
  int_ : mg "int" = none
  isinstance_ : mg "isinstance" = none
  len_ : mg "len" = none
  list_ : mg "list" = none
  range_ : mg "range" = none
  set_ : mg "set" = none
  str_ : mg "str" = none
  sum_ : mg "sum" = none
  tuple_ : mg "tuple" = none
structure Cls (K : PySem.W.Frag) (mg : Str → Option Value) (C_BlockError C_NoBoard C_NoRule C_NotBack C_BadNote : Addr) : Prop where
  BlockError : ErrAt K mg "BlockError" C_BlockError
  NoBoard : ErrAt K mg "NoBoard" C_NoBoard
  NoRule : ErrAt K mg "NoRule" C_NoRule
  NotBack : ErrAt K mg "NotBack" C_NotBack
  BadNote : ErrAt K mg "BadNote" C_BadNote
  S_BlockError_NoBoard : PySem.W.subIn K (.ref C_BlockError) (.ref C_NoBoard) = some false
  S_BlockError_NoRule : PySem.W.subIn K (.ref C_BlockError) (.ref C_NoRule) = some false
  S_BlockError_NotBack : PySem.W.subIn K (.ref C_BlockError) (.ref C_NotBack) = some false
  S_BlockError_BadNote : PySem.W.subIn K (.ref C_BlockError) (.ref C_BadNote) = some false
  S_NoBoard_BlockError : PySem.W.subIn K (.ref C_NoBoard) (.ref C_BlockError) = some true
  S_NoBoard_NoRule : PySem.W.subIn K (.ref C_NoBoard) (.ref C_NoRule) = some false
  S_NoBoard_NotBack : PySem.W.subIn K (.ref C_NoBoard) (.ref C_NotBack) = some false
  S_NoBoard_BadNote : PySem.W.subIn K (.ref C_NoBoard) (.ref C_BadNote) = some false
  S_NoRule_BlockError : PySem.W.subIn K (.ref C_NoRule) (.ref C_BlockError) = some true
  S_NoRule_NoBoard : PySem.W.subIn K (.ref C_NoRule) (.ref C_NoBoard) = some false
  S_NoRule_NotBack : PySem.W.subIn K (.ref C_NoRule) (.ref C_NotBack) = some false
  S_NoRule_BadNote : PySem.W.subIn K (.ref C_NoRule) (.ref C_BadNote) = some false
  S_NotBack_BlockError : PySem.W.subIn K (.ref C_NotBack) (.ref C_BlockError) = some true
  S_NotBack_NoBoard : PySem.W.subIn K (.ref C_NotBack) (.ref C_NoBoard) = some false
  S_NotBack_NoRule : PySem.W.subIn K (.ref C_NotBack) (.ref C_NoRule) = some false
  S_NotBack_BadNote : PySem.W.subIn K (.ref C_NotBack) (.ref C_BadNote) = some false
  S_BadNote_BlockError : PySem.W.subIn K (.ref C_BadNote) (.ref C_BlockError) = some true
  S_BadNote_NoBoard : PySem.W.subIn K (.ref C_BadNote) (.ref C_NoBoard) = some false
  S_BadNote_NoRule : PySem.W.subIn K (.ref C_BadNote) (.ref C_NoRule) = some false
  S_BadNote_NotBack : PySem.W.subIn K (.ref C_BadNote) (.ref C_NotBack) = some false
end BT
open PySem PySem.Spec PyProof.Rows L2 Evl BT
local macro_rules | `(tactic| walk_at "le") => `(tactic| first | omega | decide | with_reducible assumption | (simp only [List.length_map, len_rowOf, len_mk, List.length_cons, List.length_nil] at *; omega))
local macro_rules | `(tactic| walk_at "sq") => `(tactic| first | assumption | exact sq_of (by assumption) | exact st_of (by assumption))
local macro_rules | `(tactic| walk_at "rv") => `(tactic| first
  | ((with_reducible show RV (rI0 _) _ _ _ _); exact rv_I0)
  | ((with_reducible show RV rEq _ _ _ _); first | exact rv_eqI | exact rv_eqS | exact rv_eqBl)
  | ((with_reducible show RV rNe _ _ _ _); first | exact rv_neI | exact rv_neS)
  | ((with_reducible show RV (rI (fun _ j => 0 < j) fun i j => V.int (i % j)) _ _ _ _); exact rv_mod (by walk_at "le"))
  | ((with_reducible show RV (rI CDiv _) _ _ _ _); exact rv_fdiv (by walk_at "le") (by walk_at "le"))
  | ((with_reducible show RV (rI CMul _) _ _ _ _); first | exact rv_mulR (by walk_at "le") (by walk_at "le") | exact rv_mulL (by walk_at "le") (by walk_at "le"))
  | ((with_reducible show RV (rI CPow _) _ _ _ _); exact rv_pow ⟨by decide, by decide, by decide⟩)
  | ((with_reducible show RV (rEqD _) _ _ _ _); first | exact rv_eqB (by assumption) (by assumption) | exact rv_eqL (by walk_at "sq") (by walk_at "sq") | exact rv_eqT (by assumption) (by assumption))
  | ((with_reducible show RV (rNeD _) _ _ _ _); first | exact rv_neB (by assumption) (by assumption) | exact rv_neL (by walk_at "sq") (by walk_at "sq") | exact rv_neT (by assumption) (by assumption)))
local macro_rules | `(tactic| walk_at "ev") => `(tactic| first
  | ((with_reducible show Ev (tVar _) _ _ _); exact ev_var rfl)
  | ((with_reducible show Ev (tC _) _ _ _); exact ev_c)
  | ((with_reducible show Ev (tCB (rLenS _) (tCons (tOp (rIxT _) _ _) tNil)) _ _ _); exact ev_wide (by walk_at "le") (by walk_at "ev") (by walk_at "ev") (by assumption))
  | ((with_reducible show Ev (tCB (rLenS _) (tCons _ tNil)) _ _ _); first | exact ev_lenM (by walk_at "ev") (by assumption) | exact ev_lenLI (by walk_at "ev") (by walk_at "sq") | exact ev_lenTI (by walk_at "ev") (by walk_at "sq") | exact ev_lenL (by walk_at "ev") (by walk_at "sq") | exact ev_lenT (by walk_at "ev") (by walk_at "sq"))
  | ((with_reducible show Ev (tOp (rIxT _) (tOp (rIxT _) _ _) _) _ _ _); exact ev_cell (by walk_at "ev") (by walk_at "ev") (by walk_at "ev") (by assumption) (by walk_at "le") (by walk_at "le") (by walk_at "le") (by walk_at "le"))
  | ((with_reducible show Ev (tOp (rIxL _) _ _) _ _ _); exact ev_ixLI (by walk_at "ev") (by walk_at "ev") (by walk_at "sq") (by walk_at "le") (by walk_at "le"))
  | ((with_reducible show Ev (tOp (rIxT _) _ _) _ _ _); exact ev_ixTI (by walk_at "ev") (by walk_at "ev") (by walk_at "sq") (by walk_at "le") (by walk_at "le"))
  | ((with_reducible show Ev (tOp _ _ _) _ _ _); exact ev_op (by walk_at "ev") (by walk_at "ev") (by walk_at "rv"))
  | ((with_reducible show Ev (tUn _ _) _ _ _); exact ev_un (by walk_at "ev") ru_neg)
  | ((with_reducible show Ev (tCall _ _ _ _) _ _ _); exact ev_call (by walk_at "ea") (by walk_at "sp"))
  | ((with_reducible show Ev (tCB (rSum _) (tCons _ tNil)) _ _ _); exact ev_sumL (by walk_at "ev") (by walk_at "sq"))
  | ((with_reducible show Ev (tCB (rSumT _) (tCons _ tNil)) _ _ _); exact ev_sumT (by walk_at "ev") (by walk_at "sq"))
  | ((with_reducible show Ev (tCB rMin2 _) _ _ _); exact ev_min2 (by walk_at "ev") (by walk_at "ev"))
  | ((with_reducible show Ev (tCB rInt1 _) _ _ _); exact ev_intB (by walk_at "ev"))
  | ((with_reducible show Ev (tNotV _) _ _ _); exact ev_notV (by walk_at "ev"))
  | ((with_reducible show Ev (tAndV _ _) _ _ _); exact ev_andV (by walk_at "ev") (by (intro _; walk_at "ev")))
  | ((with_reducible show Ev (tOrV _ _) _ _ _); exact ev_orV (by walk_at "ev") (by (intro _; walk_at "ev"))))
local macro_rules | `(tactic| walk_at "ea") => `(tactic| first
  | ((with_reducible show EvA tNil _ _ _); exact ea_nil)
  | ((with_reducible show EvA (tCons _ _) _ _ _); exact ea_cons (by walk_at "ev") (by walk_at "ea")))
local macro_rules | `(tactic| walk_at "et") => `(tactic| first
  | ((with_reducible show EvT tYes _ _ _); exact et_yes)
  | ((with_reducible show EvT (tTest _) _ _ _); exact et_test (by walk_at "ev"))
  | ((with_reducible show EvT (tB _) _ _ _); exact et_B (by walk_at "ev"))
  | ((with_reducible show EvT (tNot _) _ _ _); exact et_not (by walk_at "et"))
  | ((with_reducible show EvT (tAnd _ _) _ _ _); exact et_and (by walk_at "et") (by (intro _; walk_at "et")))
  | ((with_reducible show EvT (tOr _ _) _ _ _); exact et_or (by walk_at "et") (by (intro _; walk_at "et"))))
namespace BT
open PySem PySem.Spec PyProof.Rows L2 Evl
/-! #### _law_cell_at -/
def sp__law_cell_at (K : PySem.W.Frag) : Sp := fun vs H Q _ => ∃ (a : Addr) (ns : List Int) (k : Int), vs = [.ref a, .int k] ∧ SqL K H a (ns.map V.int) ∧ 0 ≤ k ∧ RetV (.int (at0 ns k)) H Q
theorem spv__law_cell_at {K : PySem.W.Frag} {H : Hp} {a : Addr} {ns : List Int} {k : Int} (h : SqL K H a (ns.map V.int)) (h0 : 0 ≤ k) : SpV (sp__law_cell_at K) [.ref a, .int k] H (.int (at0 ns k)) :=
  fun H1 e Q q E => ⟨a, ns, k, rfl, ex_l e h, h0, q⟩
local macro_rules | `(tactic| walk_at "sp") => `(tactic| (refine' spv__law_cell_at ?h1 ?h2; (case h1 => walk_at "sq"); (case h2 => walk_at "le")))
theorem cal__law_cell_at {P : Program} {w : World} {K : PySem.W.Frag} {mg : Str → Option Value} {base : Heap} {f : Addr} {fd : FuncData} (Bt : Bl mg) (D : DefAt K mg "_law_cell_at" s__law_cell_at ["script", "k"] f fd)  :
    CalE P w K mg base CX0 1 "_law_cell_at" ["script", "k"] (sp__law_cell_at K) := by
  refine ⟨f, fd, D.F.ok sc__law_cell_at (fun vs H Q E h => ?_) (fun cdv A outer s H vs Q E hRm h => ?_), D.g, D.F.kp, D.b⟩
  · obtain ⟨a, ns, k, rfl, _⟩ := h; rfl
  · obtain ⟨a, ns, k, rfl, hS, h0, q⟩ := h
    refine ⟨_, (pss_cons (ps_if (pt_cmpR op_lt (pv 1) (pe_callB (call_lenK (K := K) rfl) (by rfl) Bt.len_ (by decide +kernel) (pa_cons (pv 0) pa_nil)) (nomark _)) (pss_one (ps_ret (pe_ix (ix_listK (K := K) rfl) (pv 0) (pv 1) (fun _ _ => rfl)))) pss_nil)
 (pss_one (ps_ret pe_int))), Go.at ?_⟩
    refine go_when (p := k < (ns.length : Int)) (by walk_at "et") (fun hk => ?_) (fun hk => ?_)
    · exact go_ret (by walk_at "ev") q
    · refine go_ret (by walk_at "ev") (v := .int 0) ?_
      have e0 : at0 ns k = 0 := by
        unfold at0
        rw [List.getD_eq_getElem?_getD, List.getElem?_eq_none (by omega)]
        rfl
      rw [e0] at q
      exact q
/-! #### _law_named -/
def bitsN (n : Int) : List Int := [n / 8 % 2, n / 4 % 2, n / 2 % 2, n % 2]
def na1 (k : Int) (r : List Int) : List Int := if k = 0 then [at0 r 2, at0 r 0, at0 r 3, at0 r 1] else r
def na2 (k : Int) (r : List Int) : List Int := if k = 1 ∧ r.sum = 1 then r.reverse else if k = 1 ∧ at0 r 0 = at0 r 3 ∧ at0 r 1 = at0 r 2 ∧ r.sum = 2 then r.map (fun x => 1 - x) else r
def na3 (k : Int) (r : List Int) : List Int := if k = 2 ∧ r.sum ≠ 2 then (if r.sum = 3 then (r.map (fun x => 1 - x)).reverse else r.map (fun x => 1 - x)) else r
def nameN (k n : Int) : Int := let r := na3 k (na2 k (na1 k (bitsN n))); 8 * at0 r 0 + 4 * at0 r 1 + 2 * at0 r 2 + at0 r 3
theorem na1_len (k n : Int) : (na1 k (bitsN n)).length = 4 := by unfold na1; split <;> rfl
theorem na2_len (k : Int) {r : List Int} (h : r.length = 4) : (na2 k r).length = 4 := by
  unfold na2
  split
  · rw [List.length_reverse, h]
  · split
    · rw [List.length_map, h]
    · exact h
theorem na3_len (k : Int) {r : List Int} (h : r.length = 4) : (na3 k r).length = 4 := by
  unfold na3
  split
  · split
    · rw [List.length_reverse, List.length_map, h]
    · rw [List.length_map, h]
  · exact h
def sp__law_named (K : PySem.W.Frag) : Sp := fun vs H Q _ => ∃ (k n : Int), vs = [.int k, .int n] ∧ RetV (.int (nameN k n)) H Q
theorem spv__law_named {K : PySem.W.Frag} {H : Hp} {k n : Int} : SpV (sp__law_named K) [.int k, .int n] H (.int (nameN k n)) := fun H1 e Q q E => ⟨k, n, rfl, q⟩
local macro_rules | `(tactic| walk_at "sp") => `(tactic| exact spv__law_named)
theorem cal__law_named {P : Program} {w : World} {K : PySem.W.Frag} {mg : Str → Option Value} {base : Heap} {f : Addr} {fd : FuncData} (Bt : Bl mg) (D : DefAt K mg "_law_named" s__law_named ["kind", "number"] f fd)  :
    CalE P w K mg base CX0 1 "_law_named" ["kind", "number"] (sp__law_named K) := by
  refine ⟨f, fd, D.F.ok sc__law_named (fun vs H Q E h => ?_) (fun cdv A outer s H vs Q E hRm h => ?_), D.g, D.F.kp, D.b⟩
  · obtain ⟨k, n, rfl, _⟩ := h; rfl
  · obtain ⟨k, n, rfl, q⟩ := h
    refine ⟨_, (pss_cons (ps_set (i := 2) sc__law_named.nd rfl (Or.inl rfl) (pe_lst (pa_cons (pe_op op_mod (pe_op op_fdiv (pv 1) pe_int) pe_int) (pa_cons (pe_op op_mod (pe_op op_fdiv (pv 1) pe_int) pe_int) (pa_cons (pe_op op_mod (pe_op op_fdiv (pv 1) pe_int) pe_int) (pa_cons (pe_op op_mod (pv 1) pe_int) pa_nil))))))
 (pss_cut (ps_if (pt_cmpR op_eq (pv 0) pe_int (nomark _)) (pss_one (ps_set (i := 2) sc__law_named.nd rfl (Or.inl rfl) (pe_lst (pa_cons (pe_ix (ix_listK (K := K) rfl) (pv 2) pe_int (fun _ _ => rfl)) (pa_cons (pe_ix (ix_listK (K := K) rfl) (pv 2) pe_int (fun _ _ => rfl)) (pa_cons (pe_ix (ix_listK (K := K) rfl) (pv 2) pe_int (fun _ _ => rfl)) (pa_cons (pe_ix (ix_listK (K := K) rfl) (pv 2) pe_int (fun _ _ => rfl)) pa_nil))))))) pss_nil)
 (pss_cut (ps_if (PW.pt (pw_and (pt_cmpR op_eq (pv 0) pe_int (nomark _)) (pw_and1 (pt_cmpR op_eq (pe_callB (cr_sumK (K := K) rfl rfl) (by rfl) Bt.sum_ (by decide +kernel) (pa_cons (pv 2) pa_nil)) pe_int (nomark _))))) (pss_one (ps_expr (pe_bm0 PySem.F.plainAttrs_list PySem.F.slot_list_reverse PySem.F.type_list_reverse mt_reverse (pv 2)))) (pss_one (ps_if (PW.pt (pw_and (pt_cmpR op_eq (pv 0) pe_int (nomark _)) (pw_and (pt_cmpR op_eq (pe_ix (ix_listK (K := K) rfl) (pv 2) pe_int (fun _ _ => rfl)) (pe_ix (ix_listK (K := K) rfl) (pv 2) pe_int (fun _ _ => rfl)) (nomark _)) (pw_and (pt_cmpR op_eq (pe_ix (ix_listK (K := K) rfl) (pv 2) pe_int (fun _ _ => rfl)) (pe_ix (ix_listK (K := K) rfl) (pv 2) pe_int (fun _ _ => rfl)) (nomark _)) (pw_and1 (pt_cmpR op_eq (pe_callB (cr_sumK (K := K) rfl rfl) (by rfl) Bt.sum_ (by decide +kernel) (pa_cons (pv 2) pa_nil)) pe_int (nomark _))))))) (pss_one (ps_setLc (i := 2) (own := [("bit", 4)]) (g := gName 4) (by rfl) sc__law_named.nd rfl rfl (sw_true rfl rfl rfl (by decide +kernel)) (pi_listK (K := K) rfl (pv 2)) (blkOk_by (own := [("bit", 4)]) (N := ["kind", "number", "bits", "three", "bit"]) (sc := defScope s__law_named) (by decide +kernel)) (fun _ _ _ _ _ => pg_name (i := 4) sc__law_named.nd rfl (Or.inl rfl)) (fun _ _ _ _ _ => pts_nil) (fun _ _ _ _ _ => (pe_op op_sub pe_int (pv 4))))) pss_nil)))
 (pss_cut (ps_if (PW.pt (pw_and (pt_cmpR op_eq (pv 0) pe_int (nomark _)) (pw_and1 (pt_cmpR op_ne (pe_callB (cr_sumK (K := K) rfl rfl) (by rfl) Bt.sum_ (by decide +kernel) (pa_cons (pv 2) pa_nil)) pe_int (nomark _))))) (pss_cons (ps_set (i := 3) sc__law_named.nd rfl (Or.inl rfl) (pe_cmpR op_eq (pe_callB (cr_sumK (K := K) rfl rfl) (by rfl) Bt.sum_ (by decide +kernel) (pa_cons (pv 2) pa_nil)) pe_int (nomark _)))
 (pss_cons (ps_setLc (i := 2) (own := [("bit", 4)]) (g := gName 4) (by rfl) sc__law_named.nd rfl rfl (sw_true rfl rfl rfl (by decide +kernel)) (pi_listK (K := K) rfl (pv 2)) (blkOk_by (own := [("bit", 4)]) (N := ["kind", "number", "bits", "three", "bit"]) (sc := defScope s__law_named) (by decide +kernel)) (fun _ _ _ _ _ => pg_name (i := 4) sc__law_named.nd rfl (Or.inl rfl)) (fun _ _ _ _ _ => pts_nil) (fun _ _ _ _ _ => (pe_op op_sub pe_int (pv 4))))
 (pss_one (ps_if (pt_val (pv 3)) (pss_one (ps_expr (pe_bm0 PySem.F.plainAttrs_list PySem.F.slot_list_reverse PySem.F.type_list_reverse mt_reverse (pv 2)))) pss_nil)))) pss_nil)
 (pss_one (ps_ret (pe_op op_add (pe_op op_add (pe_op op_add (pe_op op_mul pe_int (pe_ix (ix_listK (K := K) rfl) (pv 2) pe_int (fun _ _ => rfl))) (pe_op op_mul pe_int (pe_ix (ix_listK (K := K) rfl) (pv 2) pe_int (fun _ _ => rfl)))) (pe_op op_mul pe_int (pe_ix (ix_listK (K := K) rfl) (pv 2) pe_int (fun _ _ => rfl)))) (pe_ix (ix_listK (K := K) rfl) (pv 2) pe_int (fun _ _ => rfl))))))))), Go.at ?_⟩
    refine go_asgL (xs := (bitsN n).map V.int) (el_lst (by walk_at "ea") (by show (4 : Nat) ≤ 100000; decide)) fun p H1 hp e1 h1 => ?_
    refine go_cutIfd (p := k = 0) (fun σ' H' => ∃ p, σ' = [some (.int k), some (.int n), some (.ref p), none, none] ∧ Ex H H' ∧ H p = none ∧ H' p = some (.lst ((na1 k (bitsN n)).map V.int)))
      (by walk_at "et") (fun hk => ?_) (fun hk => ?_) (fun σ' H2 ⟨p2, hσ, e2, hp2, h2⟩ => ?_)
    · have hs : SqL K H1 p ((bitsN n).map V.int) := sq_of h1
      have hl : (bitsN n).length = 4 := rfl
      refine gl_asgL (xs := ([at0 (bitsN n) 2, at0 (bitsN n) 0, at0 (bitsN n) 3, at0 (bitsN n) 1]).map V.int) (el_lst (by walk_at "ea") (by show (4 : Nat) ≤ 100000; decide)) fun p2 H2 hp2 e2 h2 => fun H3 e3 => ⟨p2, rfl, (e1.trans e2).trans e3, fresh_back e1 hp2, ?_⟩
      rw [e3 _ _ h2]
      unfold na1
      rw [if_pos hk]
    · exact fun H2 e2 => ⟨p, rfl, e1.trans e2, hp, by rw [e2 _ _ h1]; unfold na1; rw [if_neg hk]⟩
    · subst hσ
      have l1 := na1_len k n
      generalize er1 : na1 k (bitsN n) = r1 at *
      have hs : SqL K H2 p2 (r1.map V.int) := sq_of h2
      refine go_cutIf (b := decide (k = 1) && decide (r1.sum = 1)) (fun σ' H' => ∃ p, σ' = [some (.int k), some (.int n), some (.ref p), none, none] ∧ Ex H H' ∧ H p = none ∧ H' p = some (.lst ((na2 k r1).map V.int)))
        (by walk_at "et") (fun hk => ?_) (fun hk => ?_) (fun σ' H3 ⟨p3, hσ, e3, hp3, h3⟩ => ?_)
      · simp only [Bool.and_eq_true, decide_eq_true_eq] at hk
        refine gl_rev h2 (ev_var rfl) fun H3 e3 => fun H4 e4 => ⟨p2, rfl, ((e2.trans e3).mut hp2).trans e4, hp2, ?_⟩
        rw [e4 _ _ upd_same]
        unfold na2
        rw [if_pos hk, List.map_reverse]
      · simp only [Bool.and_eq_false_iff, decide_eq_false_iff_not] at hk
        have hk' : ¬ (k = 1 ∧ r1.sum = 1) := fun z => by rcases hk with h | h; exact h z.1; exact h z.2
        refine gl_if (b := decide (k = 1) && (decide (at0 r1 0 = at0 r1 3) && (decide (at0 r1 1 = at0 r1 2) && decide (r1.sum = 2)))) (by walk_at "et") (fun hb => ?_) (fun hb => ?_)
        · simp only [Bool.and_eq_true, decide_eq_true_eq] at hb
          refine gl_asgL (el_mapL (fun x => .int (1 - x)) (ev_var rfl) hs (by omega) (fun _ => rfl) (fun x _ => by walk_at "ev")) fun p3 H3 hp3 e3 h3 => fun H4 e4 => ⟨p3, rfl, (e2.trans e3).trans e4, fresh_back e2 hp3, ?_⟩
          rw [e4 _ _ h3]
          unfold na2
          rw [if_neg hk', if_pos hb, List.map_map]
          rfl
        · have hb' : ¬ (k = 1 ∧ at0 r1 0 = at0 r1 3 ∧ at0 r1 1 = at0 r1 2 ∧ r1.sum = 2) := fun z => by simp [z] at hb
          refine fun H3 e3 => ⟨p2, rfl, e2.trans e3, hp2, ?_⟩
          rw [e3 _ _ h2]
          unfold na2
          rw [if_neg hk', if_neg hb']
      · subst hσ
        have l2 := na2_len k l1
        have e0 : nameN k n = 8 * at0 (na3 k (na2 k r1)) 0 + 4 * at0 (na3 k (na2 k r1)) 1 + 2 * at0 (na3 k (na2 k r1)) 2 + at0 (na3 k (na2 k r1)) 3 := by rw [← er1]; rfl
        generalize na2 k r1 = r2 at *
        have hs3 : SqL K H3 p3 (r2.map V.int) := sq_of h3
        refine go_cutIf (b := decide (k = 2) && decide (r2.sum ≠ 2)) (fun σ' H' => ∃ p y, σ' = [some (.int k), some (.int n), some (.ref p), y, none] ∧ Ex H H' ∧ H' p = some (.lst ((na3 k r2).map V.int)))
          (by walk_at "et") (fun hb => ?_) (fun hb => ?_) (fun σ' H4 ⟨p4, y, hσ, e4, h4⟩ => ?_)
        · simp only [Bool.and_eq_true, decide_eq_true_eq] at hb
          refine go_asg (by walk_at "ev") ?_
          refine go_asgL (el_mapL (fun x => .int (1 - x)) (ev_var rfl) hs3 (by omega) (fun _ => rfl) (fun x _ => by walk_at "ev")) fun p4 H4 hp4 e4 h4 => ?_
          refine gl_whenb (b := decide (r2.sum = 3)) (by walk_at "et") (fun ht => ?_) (fun ht => ?_)
          · refine gl_rev h4 (ev_var rfl) fun H5 e5 => fun H6 e6 => ⟨p4, _, rfl, (((e3.trans e4).trans e5).mut (fresh_back e3 hp4)).trans e6, ?_⟩
            rw [e6 _ _ upd_same]
            unfold na3
            rw [if_pos hb, if_pos (of_decide_eq_true ht), List.map_reverse, List.map_map]
            rfl
          · refine fun H5 e5 => ⟨p4, _, rfl, (e3.trans e4).trans e5, ?_⟩
            rw [e5 _ _ h4]
            unfold na3
            rw [if_pos hb, if_neg (of_decide_eq_false ht), List.map_map]
            rfl
        · have hb' : ¬ (k = 2 ∧ r2.sum ≠ 2) := fun z => by simp [z] at hb
          refine fun H4 e4 => ⟨p3, none, rfl, e3.trans e4, ?_⟩
          rw [e4 _ _ h3]
          unfold na3
          rw [if_neg hb']
        · subst hσ
          have l3 := na3_len k l2
          rw [e0] at q
          generalize na3 k r2 = r3 at *
          have hs4 : SqL K H4 p4 (r3.map V.int) := sq_of h4
          exact go_ret (by walk_at "ev") fun H5 e5 => q H5 (e4.trans e5)
/-! #### _law_rule_by -/
theorem named_all : ∀ k ∈ [(0 : Int), 1, 2], ((List.range 16).all fun i => ((List.range 16).map fun j : Nat => nameN k j).contains (i : Int)) = true := by decide +kernel
theorem named_rule {k : Int} (h0 : 0 ≤ k) (h1 : k < 3) : ((rng 16).map (nameN k)).Perm (rng 16) := by
  have hk := named_all k (by simp; omega)
  refine (sub_count (nodup_rng 16) (fun x hx => ?_) (by rw [List.length_map]; exact Nat.le_refl _)).symm
  obtain ⟨x0, x1⟩ := mem_rng.mp hx
  have := List.all_eq_true.mp hk x.toNat (List.mem_range.mpr (by omega))
  rw [List.contains_iff_mem] at this
  unfold rng ranI
  rw [List.map_map]
  rw [show ((x.toNat : Nat) : Int) = x by omega] at this
  exact this
def sp__law_rule_by (K : PySem.W.Frag) : Sp := fun vs H Q _ => ∃ (cell c : Int), vs = [.int cell, .int c] ∧ 2 ≤ c ∧ c ≤ 3 ∧ ∀ r, IsRule (n4 c) r → RetL (r.map V.int) H Q
theorem spr__law_rule_by {K : PySem.W.Frag} {H : Hp} {cell c : Int} (h0 : 2 ≤ c) (h1 : c ≤ 3) : SpR (sp__law_rule_by K) [.int cell, .int c] H (IsRule (n4 c)) := fun H1 e Q q E => ⟨cell, c, rfl, h0, h1, q⟩
theorem cal__law_rule_by {P : Program} {w : World} {K : PySem.W.Frag} {mg : Str → Option Value} {base : Heap} {f : Addr} {fd : FuncData} (Bt : Bl mg) (D : DefAt K mg "_law_rule_by" s__law_rule_by ["cell", "colours"] f fd) (C__law_named : CalE P w K mg base CX0 1 "_law_named" ["kind", "number"] (sp__law_named K)) :
    CalE P w K mg base CX0 2 "_law_rule_by" ["cell", "colours"] (sp__law_rule_by K) := by
  obtain ⟨f__law_named, fd__law_named, G__law_named, g__law_named, k__law_named, b__law_named⟩ := C__law_named.ex
  refine ⟨f, fd, D.F.ok sc__law_rule_by (fun vs H Q E h => ?_) (fun cdv A outer s H vs Q E hRm h => ?_), D.g, D.F.kp, D.b⟩
  · obtain ⟨cell, c, rfl, _⟩ := h; rfl
  · obtain ⟨cell, c, rfl, c0, c1, q⟩ := h
    obtain ⟨hn, hn2, hn3⟩ := n4_int c0 c1
    refine ⟨_, (pss_cons (ps_setLc (i := 3) (own := [("k", 2)]) (g := gName 2) (by rfl) sc__law_rule_by.nd rfl rfl (sw_true rfl rfl rfl (by decide +kernel)) (pi_range1 (by rfl) Bt.range_ (pa_cons (pe_op op_mul (pe_op op_mul (pe_op op_mul (pv 1) (pv 1)) (pv 1)) (pv 1)) pa_nil)) (blkOk_by (own := [("k", 2)]) (N := ["cell", "colours", "k", "rest", "out", "a", "b"]) (sc := defScope s__law_rule_by) (by decide +kernel)) (fun _ _ _ _ _ => pg_name (i := 2) sc__law_rule_by.nd rfl (Or.inl rfl)) (fun _ _ _ _ _ => pts_nil) (fun _ _ _ _ _ => (pv 2)))
 (pss_cons (ps_if (pt_cmpR op_eq (pe_op op_mod (pv 0) pe_int) pe_int (nomark _)) (pss_one (ps_ret (pe_ifExp (pt_cmpR op_eq (pv 1) pe_int (nomark _)) (pe_lc (own := [("k", 2)]) (g := gName 2) (by rfl) sc__law_rule_by.nd (pi_listK (K := K) rfl (pv 3)) (blkOk_by (own := [("k", 2)]) (N := ["cell", "colours", "k", "rest", "out", "a", "b"]) (sc := defScope s__law_rule_by) (by decide +kernel)) (fun _ _ _ _ _ => pg_name (i := 2) sc__law_rule_by.nd rfl (Or.inl rfl)) (fun _ _ _ _ _ => pts_nil) (fun _ _ _ _ _ => (pe_call G__law_named (hRm.mono (by decide)) (by rfl) g__law_named k__law_named b__law_named .nil pass0 (pa_cons (pe_op op_mod (pe_op op_fdiv (pv 0) pe_int) pe_int) (pa_cons (pv 2) pa_nil))))) (pv 3)))) pss_nil)
 (pss_cons (ps_set (i := 4) sc__law_rule_by.nd rfl (Or.inl rfl) (pe_lst pa_nil))
 (pss_cons (ps_if (pt_cmpR op_eq (pe_op op_mod (pv 0) pe_int) pe_int (nomark _)) (pss_cons (ps_set (i := 4) sc__law_rule_by.nd rfl (Or.inl rfl) (pe_callTy (call_listK (K := K) rfl) (by rfl) Bt.list_ (by decide +kernel) (pa_cons (pv 3) pa_nil)))
 (pss_cons (ps_for PassesOwn.never rfl (pi_range1 (by rfl) Bt.range_ (pa_cons pe_int pa_nil)) (pg_name (i := 2) sc__law_rule_by.nd rfl (Or.inl rfl))
 (pss_cons (ps_set (i := 0) sc__law_rule_by.nd rfl (Or.inr rfl) (pe_op op_mod (pe_op op_add (pe_op op_mul (pv 0) pe_int) pe_int) pe_int))
 (pss_cons (ps_set (i := 5) sc__law_rule_by.nd rfl (Or.inl rfl) (pe_op op_mod (pe_op op_fdiv (pv 0) pe_int) (pe_callB (call_lenK (K := K) rfl) (by rfl) Bt.len_ (by decide +kernel) (pa_cons (pv 4) pa_nil))))
 (pss_cons (ps_set (i := 6) sc__law_rule_by.nd rfl (Or.inl rfl) (pe_op op_mod (pe_op op_fdiv (pe_op op_fdiv (pv 0) pe_int) (pe_callB (call_lenK (K := K) rfl) (by rfl) Bt.len_ (by decide +kernel) (pa_cons (pv 4) pa_nil))) (pe_callB (call_lenK (K := K) rfl) (by rfl) Bt.len_ (by decide +kernel) (pa_cons (pv 4) pa_nil))))
 (pss_one (ps_asg (pe_tup (pa_cons (pe_ix (ix_listK (K := K) rfl) (pv 4) (pv 6) (fun _ _ => rfl)) (pa_cons (pe_ix (ix_listK (K := K) rfl) (pv 4) (pv 5) (fun _ _ => rfl)) pa_nil))) (pg_tupK (K := K) rfl (by rfl) (pgs_cons (pg_sub (pv 4) (pv 5) set_list) (pgs_cons (pg_sub (pv 4) (pv 6) set_list) pgs_nil)))))))))
 (pss_one (ps_ret (pv 4))))) pss_nil)
 (pss_cons (ps_while PassesOwn.never (pt_cmpR op_gt (pe_callB (call_lenK (K := K) rfl) (by rfl) Bt.len_ (by decide +kernel) (pa_cons (pv 3) pa_nil)) pe_int (nomark _))
 (pss_cons (ps_set (i := 0) sc__law_rule_by.nd rfl (Or.inr rfl) (pe_op op_mod (pe_op op_add (pe_op op_mul (pv 0) pe_int) pe_int) pe_int))
 (pss_one (ps_expr (pe_bm PySem.F.plainAttrs_list PySem.F.slot_list_append PySem.F.type_list_append mt_append (pv 4) (pa_cons (pe_bm PySem.F.plainAttrs_list PySem.F.slot_list_pop PySem.F.type_list_pop mt_popAt (pv 3) (pa_cons (pe_op op_mod (pe_op op_fdiv (pv 0) pe_int) (pe_callB (call_lenK (K := K) rfl) (by rfl) Bt.len_ (by decide +kernel) (pa_cons (pv 3) pa_nil))) pa_nil)) pa_nil))))))
 (pss_one (ps_ret (pv 4)))))))), Go.at ?_⟩
    refine go_asgL (xs := (rng (n4 c)).map V.int) (el_mapRI (fun i => i) (n := c * c * c * c) (by walk_at "ea") (by omega) (fun _ => rfl) (fun i hi => ev_var rfl)) fun p H1 hp e1 h1 => ?_
    have hs1 : SqL K H1 p ((rng (n4 c)).map V.int) := sq_of h1
    have hlr : (rng (n4 c)).length = n4 c := len_rng _
    refine go_when (p := cell % 5 = 0) (by walk_at "et") (fun h5 => ?_) (fun h5 => ?_)
    · refine go_retIf (b := decide (c = 2)) (by walk_at "et") (fun h2 => ?_) (fun h2 => ?_)
      · have k0 := Int.emod_nonneg (cell / 5) (show (3 : Int) ≠ 0 by decide)
        have k1 := Int.emod_lt_of_pos (cell / 5) (show (0 : Int) < 3 by decide)
        refine go_retL (el_mapL (fun x => .int (nameN (cell / 5 % 3) x)) (ev_var rfl) hs1 (by omega) (fun _ => rfl) (fun x hx => by walk_at "ev")) fun p2 H2 hp2 e2 h2' => ?_
        have hc2 : n4 c = 16 := by rw [of_decide_eq_true h2]; rfl
        refine q ((rng (n4 c)).map (nameN (cell / 5 % 3))) ?_ p2 H2 (fresh_back e1 hp2) (e1.trans e2) (by rw [h2', List.map_map]; rfl)
        rw [hc2]
        exact named_rule k0 k1
      · exact go_ret (ev_var rfl) fun H2 e2 => q _ (List.Perm.refl _) p H2 hp (e1.trans e2) (e2 _ _ h1)
    · refine go_asgL (el_lst ea_nil (by decide)) fun o H2 ho e2 h2 => ?_
      have hs2 := ex_l e2 hs1
      have hn0 : (0 : Int) < (n4 c : Int) := by omega
      refine go_when (p := cell % 5 = 1) (by walk_at "et") (fun h51 => ?_) (fun h51 => ?_)
      · refine go_asgL (el_list (ev_var rfl) hs2) fun o H3 ho3 e3 h3 => ?_
        refine go_forR1 (n := 3) (by walk_at "ea") (by decide) (fun i σ' H' => ∃ cl r y a b, σ' = [some (.int cl), some (.int c), y, some (.ref p), some (.ref o), a, b] ∧ Ex H H' ∧ H' o = some (.lst (r.map V.int)) ∧ IsRule (n4 c) r)
          (fun H4 e4 => ⟨cell, rng (n4 c), _, _, _, rfl, ((e1.trans e2).trans e3).trans e4, e4 _ _ h3, List.Perm.refl _⟩) (fun i σ' H' hi ⟨cl, r, y, a, b, hσ, e, hl, hr⟩ => ?_) (fun σ' H' ⟨cl, r, y, a, b, hσ, e, hl, hr⟩ => ?_)
        · subst hσ
          have hrl := hr.len
          have hsr : SqL K H' o (r.map V.int) := sq_of hl
          refine go_asg (v := .int ((cl * 48271 + 7) % 2147483647)) (by walk_at "ev") ?_
          refine go_asg (v := .int ((cl * 48271 + 7) % 2147483647 / 5 % r.length)) (by walk_at "ev") ?_
          have hr30 : (r.length : Int) < 1073741824 := by omega
          have hr31 : (0 : Int) < r.length := by omega
          refine go_asg (ev_op (ev_op (ev_op (ev_var rfl) ev_c (rv_fdiv (by decide) (by decide))) (ev_lenLI (ev_var rfl) hsr) (rv_fdiv hr31 hr30)) (ev_lenLI (ev_var rfl) hsr) (rv_mod hr31)) ?_
          have a0 := Int.emod_nonneg ((cl * 48271 + 7) % 2147483647 / 5) (show (r.length : Int) ≠ 0 by omega)
          have a1 := Int.emod_lt_of_pos ((cl * 48271 + 7) % 2147483647 / 5) (show (0 : Int) < r.length by omega)
          have b0 := Int.emod_nonneg ((cl * 48271 + 7) % 2147483647 / 11 / r.length) (show (r.length : Int) ≠ 0 by omega)
          have b1 := Int.emod_lt_of_pos ((cl * 48271 + 7) % 2147483647 / 11 / r.length) (show (0 : Int) < r.length by omega)
          generalize (cl * 48271 + 7) % 2147483647 / 5 % r.length = a' at *
          generalize (cl * 48271 + 7) % 2147483647 / 11 / r.length % r.length = b' at *
          generalize (cl * 48271 + 7) % 2147483647 = cl' at *
          refine gl_swap hl (ev_var rfl) (ev_var rfl) (fun _ => ev_var rfl) (fun _ => ev_var rfl) (ev_var rfl) (fun _ => ev_var rfl) (ev_var rfl) (fun _ => ev_var rfl) a0 a1 b0 b1 fun H4 e4 H5 k5 h5 => fun H6 e6 =>
            ⟨cl', _, _, _, _, rfl, fun x u hx => e6 _ _ (k5 x (fun z => ?_) u (e4 _ _ (e _ _ hx))), e6 _ _ h5, isRule_swap hr a0 a1 b0 b1⟩
          have hno := fresh_back ((e1.trans e2)) ho3
          rw [z, hno] at hx
          cases hx
        · subst hσ
          exact go_ret (ev_var rfl) fun H4 e4 => q r hr o H4 (fresh_back (e1.trans e2) ho3) (e.trans e4) (e4 _ _ hl)
      · have hpo : o ≠ p := fun z => by rw [z, h1] at ho; cases ho
        refine go_while (fun m σ' H' => ∃ cl r s y a b, σ' = [some (.int cl), some (.int c), y, some (.ref p), some (.ref o), a, b] ∧ Ex H H' ∧ H' p = some (.lst (r.map V.int)) ∧ H' o = some (.lst (s.map V.int)) ∧ IsRule (n4 c) (s ++ r) ∧ m = r.length) (n4 c)
          (fun H3 e3 => ⟨cell, rng (n4 c), [], _, _, _, rfl, (e1.trans e2).trans e3, e3 _ _ (e2 _ _ h1), e3 _ _ h2, List.Perm.refl _, hlr.symm⟩) (fun m σ' H' ⟨cl, r, s, y, a, b, hσ, e, hr, hs, hR, hm⟩ => ?_)
        subst hσ
        have hsr : SqL K H' p (r.map V.int) := sq_of hr
        have hrs := hR.len
        rw [List.length_append] at hrs
        refine ⟨decide (0 < (r.length : Int)), by walk_at "et", fun hb => ⟨fun σ2 H2 => ∃ cl r' s y a b, σ2 = [some (.int cl), some (.int c), y, some (.ref p), some (.ref o), a, b] ∧ Ex H H2 ∧ H2 p = some (.lst (r'.map V.int)) ∧ H2 o = some (.lst (s.map V.int)) ∧ IsRule (n4 c) (s ++ r') ∧ r'.length + 1 = r.length,
          fun σ2 H2 ⟨cl, r', s, y, a, b, hσ, e, hr', hs, hR, hm'⟩ => ⟨r'.length, by omega, cl, r', s, y, a, b, hσ, e, hr', hs, hR, rfl⟩, ?_⟩, fun hb => ?_⟩
        · have hpos : (0 : Int) < r.length := of_decide_eq_true hb
          refine go_asg (v := .int ((cl * 48271 + 29) % 2147483647)) (by walk_at "ev") ?_
          have a0 := Int.emod_nonneg ((cl * 48271 + 29) % 2147483647 / 3) (show (r.length : Int) ≠ 0 by omega)
          have a1 := Int.emod_lt_of_pos ((cl * 48271 + 29) % 2147483647 / 3) (show (0 : Int) < r.length by omega)
          refine gl_appPop (i := (cl * 48271 + 29) % 2147483647 / 3 % r.length) hs hr hpo (ev_var rfl) (ev_var rfl) (by walk_at "ev") a0 (by rw [List.length_map]; exact a1) (by rw [List.length_map]; omega) (by rw [List.length_map]; omega) fun H3 v e3 hv => fun H4 e4 => ?_
          generalize (cl * 48271 + 29) % 2147483647 / 3 % r.length = j at *
          have hj : j.toNat < r.length := by omega
          rw [List.getElem?_map, List.getElem?_eq_getElem hj] at hv
          have hv' : v = .int r[j.toNat] := (Option.some.inj hv).symm
          subst hv'
          refine ⟨_, r.eraseIdx j.toNat, s ++ [r[j.toNat]], y, a, b, rfl, fun x u hx => e4 _ _ ?_, ?_, ?_, ?_, ?_⟩
          · rw [upd_ne (fun z => by rw [z, fresh_back e1 ho] at hx; cases hx), upd_ne (fun z => by rw [z, hp] at hx; cases hx)]
            exact e3 _ _ (e _ _ hx)
          · rw [e4 _ _ (by rw [upd_ne hpo.symm]; exact upd_same), map_erase]
          · rw [e4 _ _ upd_same, List.map_append]
            rfl
          · refine List.Perm.trans ?_ hR
            rw [List.append_assoc]
            exact List.Perm.append_left s (perm_erase r _ hj)
          · rw [List.length_eraseIdx_of_lt hj]
            omega
        · have hz := of_decide_eq_false hb
          have hr0 : r = [] := List.eq_nil_of_length_eq_zero (by omega)
          subst hr0
          rw [List.append_nil] at hR
          exact go_ret (ev_var rfl) fun H3 e3 => q s hR o H3 (fresh_back e1 ho) (e.trans e3) (e3 _ _ hs)
/-! #### _law_size -/
def SzP (v : V) (_ : Hp) : Prop := ∃ m : Nat, v = .int (2 * (m : Int)) ∧ 1 ≤ m ∧ m ≤ 8
def sp__law_size (K : PySem.W.Frag) : Sp := fun vs H Q _ => ∃ (cell : Int), vs = [.int cell] ∧ RetP SzP H Q
theorem spp__law_size {K : PySem.W.Frag} {H : Hp} {cell : Int} : SpP (sp__law_size K) [.int cell] H SzP := fun H1 e Q q E => ⟨cell, rfl, q⟩
theorem cal__law_size {P : Program} {w : World} {K : PySem.W.Frag} {mg : Str → Option Value} {base : Heap} {f : Addr} {fd : FuncData} (Bt : Bl mg) (D : DefAt K mg "_law_size" s__law_size ["cell"] f fd)  :
    CalE P w K mg base CX0 1 "_law_size" ["cell"] (sp__law_size K) := by
  refine ⟨f, fd, D.F.ok sc__law_size (fun vs H Q E h => ?_) (fun cdv A outer s H vs Q E hRm h => ?_), D.g, D.F.kp, D.b⟩
  · obtain ⟨cell, rfl, _⟩ := h; rfl
  · obtain ⟨cell, rfl, q⟩ := h
    refine ⟨_, (pss_cons (ps_set (i := 1) sc__law_size.nd rfl (Or.inl rfl) pe_int)
 (pss_cut (ps_if (pt_cmpR op_eq (pe_op op_mod (pe_op op_fdiv (pv 0) pe_int) pe_int) pe_int (nomark _)) (pss_one (ps_set (i := 1) sc__law_size.nd rfl (Or.inl rfl) pe_int)) pss_nil)
 (pss_one (ps_ret (pe_op op_add pe_int (pe_op op_mul pe_int (pe_op op_mod (pv 0) (pv 1)))))))), Go.at ?_⟩
    refine go_asg ev_c ?_
    refine go_cutIfd (p := cell / 64 % 8 = 1) (fun σ' H' => ∃ k : Int, σ' = [some (.int cell), some (.int k)] ∧ Ex H H' ∧ 0 < k ∧ k ≤ 8) (by walk_at "et") (fun h1 => ?_) (fun h1 => fun H1 e1 => ⟨3, rfl, e1, by decide, by decide⟩) (fun σ' H1 ⟨k, hσ, e1, k0, k1⟩ => ?_)
    · exact gl_asg ev_c fun H1 e1 => ⟨8, rfl, e1, by decide, by decide⟩
    · subst hσ
      have c0 := Int.emod_nonneg cell (show k ≠ 0 by omega)
      have c1 := Int.emod_lt_of_pos cell k0
      refine go_ret (v := .int (2 + 2 * (cell % k))) (by walk_at "ev") fun H2 e2 => q _ H2 (e1.trans e2) ⟨(cell % k).toNat + 1, ?_, by omega, by omega⟩
      exact congrArg V.int (by omega)
/-! #### _law_board_by -/
def BdE (K : PySem.W.Frag) (h w : Nat) (c : Int) (v : V) (H : Hp) : Prop := ∃ f, Bnd h w c f ∧ BdV K (mk h w f) v H
theorem bd_fun {B : List (List Int)} {h w : Nat} {c : Int} (hl : B.length = h) (hr : ∀ r ∈ B, r.length = w ∧ ∀ x ∈ r, 0 ≤ x ∧ x < c) : ∃ f, Bnd h w c f ∧ B = mk h w f := by
  refine ⟨fun y x => at0 (B.getD y.toNat []) x, fun y x y0 y1 x0 x1 => ?_, ?_⟩
  · have hy : y.toNat < B.length := by omega
    dsimp only
    rw [List.getD_eq_getElem?_getD, List.getElem?_eq_getElem hy]
    obtain ⟨h1, h2⟩ := hr _ (List.getElem_mem hy)
    exact h2 _ (at0_mem x0 (by show x < (B[y.toNat].length : Int); omega))
  · apply List.ext_getElem?
    intro i
    by_cases hi : i < h
    · rw [mk_get hi, List.getElem?_eq_getElem (by omega)]
      obtain ⟨h1, _⟩ := hr _ (List.getElem_mem (show i < B.length by omega))
      refine congrArg some (ext_at0 (by rw [len_rowOf]; exact h1) fun x x0 x1 => ?_)
      rw [at0_rowOf x0 (by omega), Int.toNat_natCast, List.getD_eq_getElem?_getD, List.getElem?_eq_getElem (by omega)]
      rfl
    · rw [List.getElem?_eq_none (by omega), List.getElem?_eq_none (by rw [len_mk]; omega)]
def sp__law_board_by (K : PySem.W.Frag) : Sp := fun vs H Q _ => ∃ (cell c : Int) (w h : Nat), vs = [.int cell, .int (w : Int), .int (h : Int), .int c] ∧ w ≤ 1000 ∧ h ≤ 1000 ∧ 2 ≤ c ∧ c ≤ 3 ∧ RetP (BdE K h w c) H Q
theorem spp__law_board_by {K : PySem.W.Frag} {H : Hp} {cell c : Int} {w h : Nat} (hw : w ≤ 1000) (hh : h ≤ 1000) (c0 : 2 ≤ c) (c1 : c ≤ 3) : SpP (sp__law_board_by K) [.int cell, .int (w : Int), .int (h : Int), .int c] H (BdE K h w c) :=
  fun H1 e Q q E => ⟨cell, c, w, h, rfl, hw, hh, c0, c1, q⟩
theorem col_mul {a c : Int} (k : Bool) (c0 : 2 ≤ c) : 0 ≤ a % c * (if k then (1 : Int) else 0) ∧ a % c * (if k then (1 : Int) else 0) < c := by
  have h0 := Int.emod_nonneg a (show c ≠ 0 by omega)
  have h1 := Int.emod_lt_of_pos a (show 0 < c by omega)
  cases k
  · simp; omega
  · simp; omega
theorem cal__law_board_by {P : Program} {w : World} {K : PySem.W.Frag} {mg : Str → Option Value} {base : Heap} {f : Addr} {fd : FuncData} (Bt : Bl mg) (D : DefAt K mg "_law_board_by" s__law_board_by ["cell", "width", "height", "colours"] f fd)  :
    CalE P w K mg base CX0 1 "_law_board_by" ["cell", "width", "height", "colours"] (sp__law_board_by K) := by
  refine ⟨f, fd, D.F.ok sc__law_board_by (fun vs H Q E h => ?_) (fun cdv A outer s H vs Q E hRm h => ?_), D.g, D.F.kp, D.b⟩
  · obtain ⟨cell, c, w, h, rfl, _⟩ := h; rfl
  · obtain ⟨cell, c, w, h, rfl, hw, hh, c0, c1, q⟩ := h
    refine ⟨_, (pss_cons (ps_set (i := 4) sc__law_board_by.nd rfl (Or.inl rfl) (pe_lst pa_nil))
 (pss_cons (ps_for PassesOwn.never rfl (pi_range1 (by rfl) Bt.range_ (pa_cons (pv 2) pa_nil)) (pg_name (i := 5) sc__law_board_by.nd rfl (Or.inl rfl))
 (pss_cons (ps_set (i := 6) sc__law_board_by.nd rfl (Or.inl rfl) (pe_lst pa_nil))
 (pss_cons (ps_for PassesOwn.never rfl (pi_range1 (by rfl) Bt.range_ (pa_cons (pv 1) pa_nil)) (pg_name (i := 7) sc__law_board_by.nd rfl (Or.inl rfl))
 (pss_cons (ps_set (i := 0) sc__law_board_by.nd rfl (Or.inl rfl) (pe_op op_mod (pe_op op_add (pe_op op_mul (pv 0) pe_int) pe_int) pe_int))
 (pss_one (ps_expr (pe_bm PySem.F.plainAttrs_list PySem.F.slot_list_append PySem.F.type_list_append mt_append (pv 6) (pa_cons (pe_op op_mul (pe_op op_mod (pe_op op_fdiv (pv 0) pe_int) (pv 3)) (pe_callTy call_int1S (by rfl) Bt.int_ (by decide +kernel) (pa_cons (pe_cmpR op_gt (pe_op op_mod (pe_op op_fdiv (pv 0) pe_int) pe_int) pe_int (nomark _)) pa_nil))) pa_nil))))))
 (pss_one (ps_expr (pe_bm PySem.F.plainAttrs_list PySem.F.slot_list_append PySem.F.type_list_append mt_append (pv 4) (pa_cons (pe_callTy (call_tupK (K := K) rfl) (by rfl) Bt.tuple_ (by decide +kernel) (pa_cons (pv 6) pa_nil)) pa_nil)))))))
 (pss_one (ps_ret (pe_callTy (call_tupK (K := K) rfl) (by rfl) Bt.tuple_ (by decide +kernel) (pa_cons (pv 4) pa_nil)))))), Go.at ?_⟩
    refine go_asgL (el_lst ea_nil (by decide)) fun p H1 hp e1 h1 => ?_
    refine go_forR1 (n := (h : Int)) (by walk_at "ea") (by omega) (fun i σ' H' => ∃ cl y5 y6 y7 vs B, σ' = [some (.int cl), some (.int (w : Int)), some (.int (h : Int)), some (.int c), some (.ref p), y5, y6, y7] ∧ Ex H H' ∧ H' p = some (.lst vs) ∧ RwsV K B vs H' ∧ vs.length = i ∧ ∀ r ∈ B, r.length = w ∧ ∀ x ∈ r, 0 ≤ x ∧ x < c)
      (fun H2 e2 => ⟨cell, _, _, _, [], [], rfl, e1.trans e2, e2 _ _ h1, ⟨rfl, fun i u r h1 _ => by cases h1⟩, rfl, by simp⟩) (fun i σ' H' hi ⟨cl, y5, y6, y7, vs, B, hσ, e, hl, hR, hlen, hB⟩ => ?_) (fun σ' H' ⟨cl, y5, y6, y7, vs, B, hσ, e, hl, hR, hlen, hB⟩ => ?_)
    · subst hσ
      refine go_asgL (el_lst ea_nil (by decide)) fun o H2 ho e2 h2 => ?_
      have hpo : p ≠ o := fun z => by rw [← z, hl] at ho; cases ho
      refine go_forR1 (n := (w : Int)) (by walk_at "ea") (by omega) (fun j σ' H' => ∃ cl y7 ns, σ' = [some (.int cl), some (.int (w : Int)), some (.int (h : Int)), some (.int c), some (.ref p), some (.int (i : Int)), some (.ref o), y7] ∧ Ex H H' ∧ H' p = some (.lst vs) ∧ RwsV K B vs H' ∧ H' o = some (.lst (ns.map V.int)) ∧ ns.length = j ∧ ∀ x ∈ ns, 0 ≤ x ∧ x < c)
        (fun H3 e3 => ⟨cl, _, [], rfl, (e.trans e2).trans e3, e3 _ _ (e2 _ _ hl), hR.imm (ExI.of (e2.trans e3)), e3 _ _ h2, rfl, by simp⟩) (fun j σ' H3 hj ⟨cl, y7, ns, hσ, e3, hl3, hR3, h3, hns, hx⟩ => ?_) (fun σ' H3 ⟨cl, y7, ns, hσ, e3, hl3, hR3, h3, hns, hx⟩ => ?_)
      · subst hσ
        refine go_asg (v := .int ((cl * 48271 + 13) % 2147483647)) (by walk_at "ev") ?_
        generalize (cl * 48271 + 13) % 2147483647 = cl' at *
        have hb := int_bool (decide (0 < cl' / 77 % 3))
        refine gl_app h3 (ev_var rfl) (v := .int (cl' / 7 % c * (if decide (0 < cl' / 77 % 3) then 1 else 0))) (ev_op (by walk_at "ev") (ev_intB (by walk_at "ev")) (rv_mulR hb.1 hb.2)) (by rw [List.length_map]; omega) fun H4 e4 => fun H5 e5 => ?_
        refine ⟨_, _, ns ++ [cl' / 7 % c * (if decide (0 < cl' / 77 % 3) then 1 else 0)], rfl, ((e3.trans e4).mut (fresh_back e ho)).trans e5, ?_, ?_, ?_, ?_, ?_⟩
        · exact e5 _ _ (by rw [upd_ne hpo]; exact e4 _ _ hl3)
        · exact hR3.imm ((ExI.upd' (ExI.of e4) (e4 _ _ h3)).trans (ExI.of e5))
        · rw [e5 _ _ upd_same, List.map_append]
          rfl
        · rw [List.length_append, hns]
          rfl
        · intro x hxm
          rcases List.mem_append.mp hxm with hxm | hxm
          · exact hx x hxm
          · rw [List.mem_singleton.mp hxm]
            exact col_mul _ c0
      · subst hσ
        refine gl_appP (P := RwV K ns) hl3 (ev_var rfl) (ep_U (eu_tupV (ev_var rfl) (sq_of h3)) fun t H4 _ h4 => ⟨t, rfl, st_of h4⟩) (by omega) fun v H4 e4 hv => fun H5 e5 => ?_
        refine ⟨_, _, _, _, vs ++ [v], B ++ [ns], rfl, ((e3.trans e4).mut hp).trans e5, e5 _ _ upd_same, ?_, by rw [List.length_append, hlen]; rfl, ?_⟩
        · exact ((hR3.imm (ExI.of e4)).snoc hv).imm ((ExI.upd (e4 _ _ hl3)).trans (ExI.of e5))
        · intro r hr
          rcases List.mem_append.mp hr with hr | hr
          · exact hB r hr
          · rw [List.mem_singleton.mp hr]
            exact ⟨by omega, hx⟩
    · subst hσ
      have hBl : B.length = h := by rw [← hR.1, hlen]; omega
      obtain ⟨f, hf, rfl⟩ := bd_fun hBl hB
      refine go_retP (P := BdE K h w c) (ep_U (eu_tupV (ev_var rfl) (sq_of hl)) fun t H2 e2 h2 => ⟨f, hf, t, vs, rfl, st_of h2, hR.1, (hR.imm (ExI.of e2)).2⟩) fun v H2 e2 p => q v H2 (e.trans e2) p
/-! #### board_shown -/
/-- the text of a row, of a board -/
def rowX (r : List Int) : Str := Txt.join ("" : Str) (r.map fun i => (toString i : Str))
def boardXs (B : List (List Int)) : List Str := B.map fun r => rowX r ++ ("\n" : Str)
def boardX (B : List (List Int)) : Str := Txt.join ("" : Str) (boardXs B)
theorem sumB_le {b : Nat} : ∀ (ys : List Str), (∀ y ∈ ys, y.length ≤ b) → (ys.map (·.length)).sum ≤ ys.length * b
  | [], _ => by simp
  | y :: ys, h => by
    have h1 := h y (by simp)
    have h2 := sumB_le ys fun z hz => h z (List.mem_cons_of_mem _ hz)
    simp only [List.map_cons, List.sum_cons, List.length_cons]
    rw [Nat.succ_mul]
    omega
theorem log_sm {i : Int} (h0 : 0 ≤ i) (h1 : i < 81) : i.natAbs.log2 < 1920 := by
  have : i.natAbs < 2 ^ 1920 := Nat.lt_of_lt_of_le (show i.natAbs < 2 ^ 7 by omega) (Nat.pow_le_pow_right (by decide) (by decide))
  by_cases hz : i.natAbs = 0
  · rw [hz]; decide
  · exact (Nat.log2_lt hz).mpr this
theorem row_len {w : Nat} {f : Int → Int} (hx : ∀ x : Int, 0 ≤ x → x < w → 0 ≤ f x ∧ f x < 81) : (((rowOf w f).map fun i => (toString i : Str)).map (·.length)).sum ≤ w * 2 := by
  have := sumB_le (b := 2) ((rowOf w f).map fun i => (toString i : Str)) fun y hy => by
    obtain ⟨i, hi, rfl⟩ := List.mem_map.mp hy
    unfold rowOf at hi
    obtain ⟨k, hk, rfl⟩ := List.mem_map.mp hi
    have hk := List.mem_range.mp hk
    have := hx (k : Int) (by omega) (by omega)
    exact str_small this.1 this.2
  rwa [List.length_map, len_rowOf] at this
def sp_board_shown (K : PySem.W.Frag) : Sp := fun vs H Q _ => ∃ (v : V) (hh ww : Nat) (f : Int → Int → Int) (c : Int), vs = [v] ∧ BdV K (mk (2 * hh) (2 * ww) f) v H ∧ hh ≤ 8 ∧ ww ≤ 8 ∧ Bnd (2 * hh) (2 * ww) c f ∧ c ≤ 3 ∧ RetV (.str (boardX (mk (2 * hh) (2 * ww) f))) H Q
set_option maxHeartbeats 400000 in
theorem cal_board_shown {P : Program} {w : World} {K : PySem.W.Frag} {mg : Str → Option Value} {base : Heap} {f : Addr} {fd : FuncData} (Bt : Bl mg) (D : DefAt K mg "board_shown" s_board_shown ["board"] f fd)  :
    CalE P w K mg base CX0 1 "board_shown" ["board"] (sp_board_shown K) := by
  refine ⟨f, fd, D.F.ok sc_board_shown (fun vs H Q E h => ?_) (fun cdv A outer s H vs Q E hRm h => ?_), D.g, D.F.kp, D.b⟩
  · obtain ⟨v, hh, ww, f, c, rfl, _⟩ := h; rfl
  · obtain ⟨v, hh, ww, f, c, rfl, hB, h1, h2, hf, c1, q⟩ := h
    obtain ⟨p, us, rfl, hs, hlen, hr⟩ := id hB
    rw [len_mk] at hlen
    have e0 : ("" : Str).length = 0 := by decide
    have e2 : ("\n" : Str).length = 1 := by decide
    have hz : (16777216 : Nat) ≤ sizeLine := by rw [sizeLine_eq]; exact Nat.le_refl _
    have hrow : ∀ i : Nat, i < 2 * hh → (rowX (rowOf (2 * ww) (f (i : Int)))).length ≤ 32 := fun i hi => by
      have a := row_len (w := 2 * ww) (f := f (i : Int)) fun x x0 x1 => by have := hf (i : Int) x (by omega) (by omega) x0 x1; omega
      have b := join_len ("" : Str) ((rowOf (2 * ww) (f (i : Int))).map fun i => (toString i : Str))
      unfold rowX
      rw [e0] at b
      omega
    have hys : given us.length (fun _ => true) (fun i => V.str (rowX (rowOf (2 * ww) (f (i : Int))) ++ ("\n" : Str))) = (boardXs (mk (2 * hh) (2 * ww) f)).map V.str := by
      rw [given_all, hlen]
      unfold boardXs mk
      rw [List.map_map, List.map_map]
      rfl
    refine ⟨_, (pss_one (ps_ret (pe_joinK (K := K) rfl pe_str (pe_lc (own := [("row", 1)]) (g := gName 1) (by rfl) sc_board_shown.nd (pi_tupK (K := K) rfl (pv 0)) (blkOk_by (own := [("row", 1)]) (N := ["board", "row", "colour"]) (sc := defScope s_board_shown) (by decide +kernel)) (fun _ _ _ _ _ => pg_name (i := 1) sc_board_shown.nd rfl (Or.inl rfl)) (fun _ _ _ _ _ => pts_nil) (fun _ _ _ _ _ => (pe_op op_add_str (pe_joinK (K := K) rfl pe_str (pe_lc (own := [("colour", 2)]) (g := gName 2) (by rfl) sc_board_shown.nd (pi_tupK (K := K) rfl (pv 1)) (blkOk_by (own := [("colour", 2)]) (N := ["board", "row", "colour"]) (sc := (relS { kind := .function, names := [(".0", .local), ("row", .local)], isGenerator := false, isCoroutine := false } (defScope s_board_shown))) (by decide +kernel)) (fun _ _ _ _ _ => pg_name (i := 2) sc_board_shown.nd rfl (Or.inl rfl)) (fun _ _ _ _ _ => pts_nil) (fun _ _ _ _ _ => (pe_callTy call_str_int (by rfl) Bt.str_ (by decide +kernel) (pa_cons (pv 2) pa_nil))))) pe_str)))))), Go.at ?_⟩
    refine go_ret (ev_join (ys := boardXs (mk (2 * hh) (2 * ww) f)) ev_c (by
      rw [← hys]
      refine el_lcT _ _ (ev_var rfl) hs (by omega) (fun _ => rfl) (fun _ _ _ _ _ => et_yes) (fun i x H1 e hi _ => ?_)
      have hi2 : i < 2 * hh := by rw [← hlen]; exact (List.getElem?_eq_some_iff.mp hi).1
      obtain ⟨a, rfl, ha⟩ := hr i x _ hi (mk_get hi2)
      have ha1 := ex_t e ha
      have hx : ∀ x ∈ rowOf (2 * ww) (f (i : Int)), 0 ≤ x ∧ x < 81 := fun x hx => by
        unfold rowOf at hx
        obtain ⟨k, hk, rfl⟩ := List.mem_map.mp hx
        have hk := List.mem_range.mp hk
        have := hf (i : Int) (k : Int) (by omega) (by omega) (by omega) (by omega)
        omega
      refine ev_op (ev_join (ys := (rowOf (2 * ww) (f (i : Int))).map fun i => (toString i : Str)) ev_c (by
        rw [List.map_map]
        exact el_mapT (fun x => V.str (toString x)) (ev_var rfl) ha1 (by rw [len_rowOf]; omega) (fun _ => rfl) (fun x hxm => ev_strI (ev_var rfl) (log_sm (hx x hxm).1 (hx x hxm).2))) ?_) ev_c (rv_addS ?_)
      · have a := row_len (w := 2 * ww) (f := f (i : Int)) fun x x0 x1 => by have := hf (i : Int) x (by omega) (by omega) x0 x1; omega
        rw [e0]
        omega
      · have := hrow i hi2
        unfold rowX at this
        omega) ?_) q
    have a := sumB_le (b := 33) (boardXs (mk (2 * hh) (2 * ww) f)) fun y hy => by
      unfold boardXs mk at hy
      obtain ⟨r, hr2, rfl⟩ := List.mem_map.mp hy
      obtain ⟨i, hi, rfl⟩ := List.mem_map.mp hr2
      have := hrow i (List.mem_range.mp hi)
      rw [len_app]
      omega
    have hbl : (boardXs (mk (2 * hh) (2 * ww) f)).length = 2 * hh := by unfold boardXs; rw [List.length_map, len_mk]
    rw [hbl] at a ⊢
    rw [e0]
    omega
/-! #### lines_of -/
def sp_lines_of (K : PySem.W.Frag) : Sp := fun vs H Q _ => ∃ ps : List Str, vs = [.str (Str.join ("\n" : Str) (ps ++ [("" : Str)]))] ∧ (∀ p ∈ ps, 10 ∉ TL.tl p) ∧ ps.length ≤ 100 ∧ (Str.join ("\n" : Str) (ps ++ [("" : Str)])).length ≤ 100000 ∧ RetL (ps.map V.str) H Q
theorem spl_lines_of {K : PySem.W.Frag} {H : Hp} {ps : List Str} (h1 : ∀ p ∈ ps, 10 ∉ TL.tl p) (h2 : ps.length ≤ 100) (h3 : (Str.join ("\n" : Str) (ps ++ [("" : Str)])).length ≤ 100000) : SpL (sp_lines_of K) [.str (Str.join ("\n" : Str) (ps ++ [("" : Str)]))] H (ps.map V.str) := fun H1 e Q q E => ⟨ps, rfl, h1, h2, h3, q⟩
theorem cal_lines_of {P : Program} {w : World} {K : PySem.W.Frag} {mg : Str → Option Value} {base : Heap} {f : Addr} {fd : FuncData} (Bt : Bl mg) (D : DefAt K mg "lines_of" s_lines_of ["text"] f fd) {C_BlockError C_NoBoard C_NoRule C_NotBack C_BadNote : Addr} (Cl : Cls K mg C_BlockError C_NoBoard C_NoRule C_NotBack C_BadNote)  :
    CalE P w K mg base CX0 1 "lines_of" ["text"] (sp_lines_of K) := by
  refine ⟨f, fd, D.F.ok sc_lines_of (fun vs H Q E h => ?_) (fun cdv A outer s H vs Q E hRm h => ?_), D.g, D.F.kp, D.b⟩
  · obtain ⟨ps, rfl, _⟩ := h; rfl
  · obtain ⟨ps, rfl, h1, h2, h3, q⟩ := h
    have hsp : Txt.split (Str.join ("\n" : Str) (ps ++ [("" : Str)])) ("\n" : Str) = ps ++ [("" : Str)] := by
      rw [← TL.join_eq]
      refine TL.split_join nl_tl (by decide +kernel) (by simp) fun p hp => ?_
      rcases List.mem_append.mp hp with hp | hp
      · exact h1 p hp
      · rw [List.mem_singleton.mp hp]
        decide
    have hz : (16777216 : Nat) ≤ sizeLine := by rw [sizeLine_eq]; exact Nat.le_refl _
    refine ⟨_, (pss_cons (ps_set (i := 1) sc_lines_of.nd rfl (Or.inl rfl) (pe_split (pv 0) pe_str))
 (pss_cons (ps_if (pt_cmpR op_ne (pe_ix (ix_listK (K := K) rfl) (pv 1) (pe_un un_neg pe_int) (fun _ _ => rfl)) pe_str (nomark _)) (pss_one (ps_raise rfl takes0 (pmk_own PySem.F.excBase_ValueError Cl.BadNote.xP Cl.BadNote.gP Cl.BadNote.kP (raises_own Cl.BadNote.bP Cl.BadNote.tP) (by rfl)))) pss_nil)
 (pss_one (ps_ret (pe_slice (sl_listK (K := K) rfl) (pv 1) po_none (po_some (pe_un un_neg pe_int))))))), Go.at ?_⟩
    refine go_asgL (el_split (ev_var rfl) ev_c (by decide) (by omega)) fun p H1 hp e1 hl => ?_
    rw [hsp, List.map_append] at hl
    refine go_not (et_test (ev_op (ev_ixL (i := -1) (ev_var rfl) (ev_un ev_c ru_neg) (sq_of hl) (atI_snoc _ _)) ev_c rv_neS)) (by simp) ?_
    refine go_retL (el_sl (ev_var rfl) eo_none (eo_some (ev_un ev_c ru_neg)) (sq_of hl)) fun p2 H2 hp2 e2 h2' => ?_
    have ec := cut_snoc (ps.map V.str) (V.str ("" : Str))
    rw [show (List.map V.str [("" : Str)]) = [V.str ("" : Str)] from rfl, ec] at h2'
    exact q p2 H2 (fresh_back e1 hp2) (e1.trans e2) h2'
/-! #### row_of -/
/-- a row, sign by sign -/
def sgnX (r : List Int) : Str := ⟨(r.map fun x => 48 + x.toNat).toArray⟩
theorem sgn_get {r : List Int} {i c : Nat} (h : (sgnX r).cps[i]? = some c) : i < r.length ∧ c = 48 + (at0 r (i : Int)).toNat := by
  unfold sgnX at h
  rw [List.getElem?_toArray, List.getElem?_map] at h
  obtain ⟨x, hx, rfl⟩ := Option.map_eq_some_iff.mp h
  have hi := (List.getElem?_eq_some_iff.mp hx).1
  refine ⟨hi, ?_⟩
  unfold at0
  rw [List.getD_eq_getElem?_getD, Int.toNat_natCast, hx]
  rfl
theorem sgn_size (r : List Int) : (sgnX r).cps.size = r.length := by unfold sgnX; simp
theorem sgn_int : ∀ d ∈ [(0 : Int), 1, 2], PySem.intText? (⟨#[48 + d.toNat]⟩ : Str) = some d ∧ (48 + d.toNat ∈ ("0123456789" : Str).cps.toList) := by decide +kernel
def sp_row_of (K : PySem.W.Frag) : Sp := fun vs H Q _ => ∃ r : List Int, vs = [.str (sgnX r)] ∧ (∀ x ∈ r, 0 ≤ x ∧ x < 3) ∧ r.length ≤ 100 ∧ RetP (RwV K r) H Q
theorem cal_row_of {P : Program} {w : World} {K : PySem.W.Frag} {mg : Str → Option Value} {base : Heap} {f : Addr} {fd : FuncData} (Bt : Bl mg) (D : DefAt K mg "row_of" s_row_of ["line"] f fd) {C_BlockError C_NoBoard C_NoRule C_NotBack C_BadNote : Addr} (Cl : Cls K mg C_BlockError C_NoBoard C_NoRule C_NotBack C_BadNote) {V_FIGURES : Tok} (C_FIGURES : mg "FIGURES" = some (Value.str "0123456789" V_FIGURES))  :
    CalE P w K mg base CX0 1 "row_of" ["line"] (sp_row_of K) := by
  refine ⟨f, fd, D.F.ok sc_row_of (fun vs H Q E h => ?_) (fun cdv A outer s H vs Q E hRm h => ?_), D.g, D.F.kp, D.b⟩
  · obtain ⟨r, rfl, _⟩ := h; rfl
  · obtain ⟨r, rfl, hr, hl, q⟩ := h
    have hd : ∀ i : Nat, i < r.length → PySem.intText? (⟨#[48 + (at0 r (i : Int)).toNat]⟩ : Str) = some (at0 r (i : Int)) ∧ (48 + (at0 r (i : Int)).toNat ∈ ("0123456789" : Str).cps.toList) := fun i hi => by
      have := hr _ (at0_mem (r := r) (i := (i : Int)) (by omega) (by omega))
      exact sgn_int _ (by simp; omega)
    refine ⟨_, (pss_cons (ps_for PassesOwn.never rfl (pi_str (pv 0)) (pg_name (i := 1) sc_row_of.nd rfl (Or.inl rfl))
 (pss_one (ps_if (pt_cmpR op_notInS (pv 1) (pe_glob (v := .str "0123456789") rfl C_FIGURES ⟨_, rfl⟩) (by rfl)) (pss_one (ps_raise rfl takes0 (pmk_own PySem.F.excBase_ValueError Cl.BadNote.xP Cl.BadNote.gP Cl.BadNote.kP (raises_own Cl.BadNote.bP Cl.BadNote.tP) (by rfl)))) pss_nil)))
 (pss_one (ps_ret (pe_callTy (call_tupK (K := K) rfl) (by rfl) Bt.tuple_ (by decide +kernel) (pa_cons (pe_lc (own := [("sign", 1)]) (g := gName 1) (by rfl) sc_row_of.nd (pi_str (pv 0)) (blkOk_by (own := [("sign", 1)]) (N := ["line", "sign"]) (sc := defScope s_row_of) (by decide +kernel)) (fun _ _ _ _ _ => pg_name (i := 1) sc_row_of.nd rfl (Or.inl rfl)) (fun _ _ _ _ _ => pts_nil) (fun _ _ _ _ _ => (pe_callTy call_int_str (by rfl) Bt.int_ (by decide +kernel) (pa_cons (pv 1) pa_nil)))) pa_nil))))), Go.at ?_⟩
    refine go_forS (ev_var rfl) (fun i σ' H' => ∃ y, σ' = [some (.str (sgnX r)), y] ∧ Ex H H') (fun H1 e1 => ⟨_, rfl, e1⟩) (fun i c σ' H1 hc ⟨y, hσ, e1⟩ => ?_) (fun σ' H1 ⟨y, hσ, e1⟩ => ?_)
    · subst hσ
      obtain ⟨hi, rfl⟩ := sgn_get hc
      exact gl_whenb (b := !decide (48 + (at0 r (i : Int)).toNat ∈ ("0123456789" : Str).cps.toList)) (et_test (ev_op (ev_var rfl) ev_c rv_notInS)) (fun z => by rw [decide_eq_true (hd i hi).2] at z; cases z) (fun _ => fun H2 e2 => ⟨_, rfl, e1.trans e2⟩)
    · subst hσ
      refine go_retP (ep_U (xs := r.map V.int) (eu_tupL ?_) fun p H2 _ hp => (⟨p, rfl, st_of hp⟩ : RwV K r _ _)) fun v H2 e2 hv => q v H2 (e1.trans e2) hv
      have := el_lcS (t := tYes) (te := tCB (fun xs H Q => ∃ (a : Str) (n : Int), xs = [V.str a] ∧ PySem.intText? a = some n ∧ a.length ≤ 640 ∧ Q (.int n) H) (tCons (tVar 1) tNil)) (σ := [some (.str (sgnX r)), y]) (H := H1) (tl := tVar 0) (j := 1) (vs := [1]) (fun _ => true) (fun i => V.int (at0 r (i : Int))) (ev_var rfl) (by rw [sgn_size]; omega) (fun _ => rfl) (fun _ _ _ _ _ => et_yes)
        (fun i c H2 e hc _ => by
          obtain ⟨hi, rfl⟩ := sgn_get hc
          exact ev_intS (ev_var rfl) (hd i hi).1 (by show (1 : Nat) ≤ 640; decide))
      rw [given_all, sgn_size, map_at0] at this
      exact this
/-! #### is_size -/
def sizeT (k : Int) : Bool := decide (2 ≤ k) && (decide (k ≤ 16) && decide (k % 2 = 0))
theorem sizeT_iff {k : Int} : sizeT k = true ↔ 2 ≤ k ∧ k ≤ 16 ∧ k % 2 = 0 := by
  unfold sizeT
  rw [Bool.and_eq_true, Bool.and_eq_true, decide_eq_true_eq, decide_eq_true_eq, decide_eq_true_eq]
def sp_is_size (K : PySem.W.Frag) : Sp := fun vs H Q _ => ∃ k : Int, vs = [.int k] ∧ RetV (.bl (sizeT k)) H Q
theorem spv_is_size {K : PySem.W.Frag} {H : Hp} {k : Int} : SpV (sp_is_size K) [.int k] H (.bl (sizeT k)) := fun H1 e Q q E => ⟨k, rfl, q⟩
theorem cal_is_size {P : Program} {w : World} {K : PySem.W.Frag} {mg : Str → Option Value} {base : Heap} {f : Addr} {fd : FuncData} (Bt : Bl mg) (D : DefAt K mg "is_size" s_is_size ["many"] f fd)  :
    CalE P w K mg base CX0 1 "is_size" ["many"] (sp_is_size K) := by
  refine ⟨f, fd, D.F.ok sc_is_size (fun vs H Q E h => ?_) (fun cdv A outer s H vs Q E hRm h => ?_), D.g, D.F.kp, D.b⟩
  · obtain ⟨k, rfl, _⟩ := h; rfl
  · obtain ⟨k, rfl, q⟩ := h
    refine ⟨_, (pss_one (ps_ret (pe_and (pe_cmpR op_ge (pv 0) pe_int (nomark _)) (pe_and (pe_cmpR op_le (pv 0) pe_int (nomark _)) (pe_one (pe_cmpR op_eq (pe_op op_mod (pv 0) pe_int) pe_int (nomark _))))))), Go.at ?_⟩
    exact go_ret (v := .bl (decide (2 ≤ k) && (decide (k ≤ 16) && decide (k % 2 = 0)))) (by walk_at "ev") q
/-! #### looked_board -/
structure GoodB (c : Int) (R : List (List Int)) : Prop where
  h : sizeT (R.length : Int) = true
  w : sizeT ((R.getD 0 []).length : Int) = true
  r : ∀ (i : Nat) (r : List Int), R[i]? = some r → r.length = (R.getD 0 []).length ∧ ∀ x ∈ r, 0 ≤ x ∧ x < c
def sp_looked_board (K : PySem.W.Frag) : Sp := fun vs H Q E => ∃ (v : V) (R : List (List Int)) (c : Int), vs = [v, .int c] ∧ BdV K R v H ∧
  (GoodB c R → RetP (RwV K [((R.getD 0 []).length : Int), (R.length : Int)]) H Q) ∧ (¬ GoodB c R → RaiseC K "NoBoard" H E)
theorem spp_looked_board {K : PySem.W.Frag} {H : Hp} {v : V} {R : List (List Int)} {c : Int} (hB : BdV K R v H) (hg : GoodB c R) : SpP (sp_looked_board K) [v, .int c] H (RwV K [((R.getD 0 []).length : Int), (R.length : Int)]) :=
  fun H1 e Q q E => ⟨v, R, c, rfl, hB.up e, fun _ => q, fun z => absurd hg z⟩
theorem cal_looked_board {P : Program} {w : World} {K : PySem.W.Frag} {mg : Str → Option Value} {base : Heap} {f : Addr} {fd : FuncData} (Bt : Bl mg) (D : DefAt K mg "looked_board" s_looked_board ["board", "colours"] f fd) {C_BlockError C_NoBoard C_NoRule C_NotBack C_BadNote : Addr} (Cl : Cls K mg C_BlockError C_NoBoard C_NoRule C_NotBack C_BadNote) (C_is_size : CalE P w K mg base CX0 1 "is_size" ["many"] (sp_is_size K)) :
    CalE P w K mg base CX0 2 "looked_board" ["board", "colours"] (sp_looked_board K) := by
  obtain ⟨f_is_size, fd_is_size, G_is_size, g_is_size, k_is_size, b_is_size⟩ := C_is_size.ex
  refine ⟨f, fd, D.F.ok sc_looked_board (fun vs H Q E h => ?_) (fun cdv A outer s H vs Q E hRm h => ?_), D.g, D.F.kp, D.b⟩
  · obtain ⟨v, R, c, rfl, _⟩ := h; rfl
  · obtain ⟨v, R, c, rfl, hB, q, qe⟩ := h
    obtain ⟨p, us, rfl, hs, hlen, hrows⟩ := id hB
    have row0 : 0 < R.length → ∃ a0, us[0]? = some (.ref a0) ∧ SqT K H a0 ((R.getD 0 []).map V.int) := fun h0 => by
      have e : R[0]? = some (R.getD 0 []) := by rw [List.getD_eq_getElem?_getD, List.getElem?_eq_getElem h0]; rfl
      exact bd_row (p := p) hlen hrows e
    refine ⟨_, (pss_cons (ps_if (PW.pt (pw_or (pt_not (pt_val (pe_call G_is_size (hRm.mono (by decide)) (by rfl) g_is_size k_is_size b_is_size .nil pass0 (pa_cons (pe_callB (call_lenK (K := K) rfl) (by rfl) Bt.len_ (by decide +kernel) (pa_cons (pv 0) pa_nil)) pa_nil)))) (pw_or1 (pt_not (pt_val (pe_call G_is_size (hRm.mono (by decide)) (by rfl) g_is_size k_is_size b_is_size .nil pass0 (pa_cons (pe_callB (call_lenK (K := K) rfl) (by rfl) Bt.len_ (by decide +kernel) (pa_cons (pe_ix (ix_tupK (K := K) rfl) (pv 0) pe_int (fun _ _ => rfl)) pa_nil)) pa_nil))))))) (pss_one (ps_raise rfl takes0 (pmk_own PySem.F.excBase_ValueError Cl.NoBoard.xP Cl.NoBoard.gP Cl.NoBoard.kP (raises_own Cl.NoBoard.bP Cl.NoBoard.tP) (by rfl)))) pss_nil)
 (pss_cons (ps_for PassesOwn.never rfl (pi_tupK (K := K) rfl (pv 0)) (pg_name (i := 2) sc_looked_board.nd rfl (Or.inl rfl))
 (pss_cons (ps_if (pt_cmpR op_ne (pe_callB (call_lenK (K := K) rfl) (by rfl) Bt.len_ (by decide +kernel) (pa_cons (pv 2) pa_nil)) (pe_callB (call_lenK (K := K) rfl) (by rfl) Bt.len_ (by decide +kernel) (pa_cons (pe_ix (ix_tupK (K := K) rfl) (pv 0) pe_int (fun _ _ => rfl)) pa_nil)) (nomark _)) (pss_one (ps_raise rfl takes0 (pmk_own PySem.F.excBase_ValueError Cl.NoBoard.xP Cl.NoBoard.gP Cl.NoBoard.kP (raises_own Cl.NoBoard.bP Cl.NoBoard.tP) (by rfl)))) pss_nil)
 (pss_one (ps_for PassesOwn.never rfl (pi_tupK (K := K) rfl (pv 2)) (pg_name (i := 3) sc_looked_board.nd rfl (Or.inl rfl))
 (pss_one (ps_if (PW.pt (pw_or (pt_cmpR op_lt (pv 3) pe_int (nomark _)) (pw_or1 (pt_cmpR op_ge (pv 3) (pv 1) (nomark _))))) (pss_one (ps_raise rfl takes0 (pmk_own PySem.F.excBase_ValueError Cl.NoBoard.xP Cl.NoBoard.gP Cl.NoBoard.kP (raises_own Cl.NoBoard.bP Cl.NoBoard.tP) (by rfl)))) pss_nil))))))
 (pss_one (ps_ret (pe_tup (pa_cons (pe_callB (call_lenK (K := K) rfl) (by rfl) Bt.len_ (by decide +kernel) (pa_cons (pe_ix (ix_tupK (K := K) rfl) (pv 0) pe_int (fun _ _ => rfl)) pa_nil)) (pa_cons (pe_callB (call_lenK (K := K) rfl) (by rfl) Bt.len_ (by decide +kernel) (pa_cons (pv 0) pa_nil)) pa_nil))))))), Go.at ?_⟩
    refine go_whenb (b := !sizeT (R.length : Int) || !sizeT ((R.getD 0 []).length : Int)) (et_or (et_not (et_B (ev_call (ea_cons (ev_lenB (ev_var rfl) hB) ea_nil) spv_is_size))) (fun hb => ?_)) (fun hb => fun H1 e1 => qe (fun g => ?_) _ Cl.NoBoard.nP H1 e1) (fun hb => ?_)
    · have hz : sizeT (R.length : Int) = true := by simpa using hb
      obtain ⟨a0, ha0, hq0⟩ := row0 (by have := (sizeT_iff.mp hz).1; omega)
      exact et_not (et_B (ev_call (ea_cons (ev_lenTI (ev_ixT (i := ((0 : Nat) : Int)) (ev_var rfl) ev_c hs (atI_nat ha0)) hq0) ea_nil) spv_is_size))
    · rw [g.h, g.w] at hb
      cases hb
    · rw [Bool.or_eq_false_iff, Bool.not_eq_false', Bool.not_eq_false'] at hb
      obtain ⟨hz, hz2⟩ := hb
      have hpos : 0 < R.length := by have := (sizeT_iff.mp hz).1; omega
      obtain ⟨a0, ha0, hq0⟩ := row0 hpos
      refine go_forT (a := p) (ev_var rfl) hs (fun i σ' H' => ∃ y2 y3, σ' = [some (.ref p), some (.int c), y2, y3] ∧ Ex H H' ∧ ∀ (j : Nat) (r : List Int), j < i → R[j]? = some r → r.length = (R.getD 0 []).length ∧ ∀ x ∈ r, 0 ≤ x ∧ x < c)
        (fun H1 e1 => ⟨_, _, rfl, e1, fun j r hj => by omega⟩) (fun i σ' H' _ ⟨_, _, _, e, _⟩ => ex_t e hs) (fun i x σ' H' hi ⟨y2, y3, hσ, e, hj⟩ => ?_) (fun σ' H1 ⟨y2, y3, hσ, e1, hj⟩ => ?_)
      · subst hσ
        have hiR : i < R.length := by rw [← hlen]; exact (List.getElem?_eq_some_iff.mp hi).1
        obtain ⟨a, rfl, ha⟩ := hrows i x _ hi (List.getElem?_eq_getElem hiR)
        have hRi : R[i]? = some R[i] := List.getElem?_eq_getElem hiR
        generalize hrr : R[i] = r at *
        have ha' := ex_t e ha
        have hs' := ex_t e hs
        have hq0' := ex_t e hq0
        refine go_when (p := (r.length : Int) ≠ ((R.getD 0 []).length : Int)) (et_test (ev_op (ev_lenTI (ev_var rfl) ha') (ev_lenTI (ev_ixT (i := ((0 : Nat) : Int)) (ev_var rfl) ev_c hs' (atI_nat ha0)) hq0') rv_neI)) (fun h1 => fun H1 e1 => qe (fun g => h1 (by rw [(g.r i r hRi).1])) _ Cl.NoBoard.nP H1 (e.trans e1)) (fun h1 => ?_)
        refine gl_forT (a := a) (ev_var rfl) ha' (fun k σ' H2 => ∃ y3, σ' = [some (.ref p), some (.int c), some (.ref a), y3] ∧ Ex H H2 ∧ ∀ l : Nat, l < k → 0 ≤ at0 r (l : Int) ∧ at0 r (l : Int) < c)
          (fun H1 e1 => ⟨_, rfl, e.trans e1, fun l hl => by omega⟩) (fun k σ' H2 _ ⟨_, _, e2, _⟩ => ex_t e2 ha) (fun k x σ' H2 hk ⟨y3, hσ, e2, hl⟩ => ?_) (fun σ' H2 ⟨y3, hσ, e2, hl⟩ => ?_)
        · subst hσ
          obtain ⟨rfl, hkl⟩ := at0_of hk
          refine gl_whenb (b := decide (at0 r (k : Int) < 0) || decide (c ≤ at0 r (k : Int))) (by walk_at "et") (fun hb => fun H3 e3 => qe (fun g => ?_) _ Cl.NoBoard.nP H3 (e2.trans e3)) (fun hb => fun H3 e3 => ⟨_, rfl, e2.trans e3, fun l hl2 => ?_⟩)
          · have := (g.r i r hRi).2 _ (at0_mem (r := r) (i := (k : Int)) (by omega) (by omega))
            rw [Bool.or_eq_true, decide_eq_true_eq, decide_eq_true_eq] at hb
            omega
          · rw [Bool.or_eq_false_iff, decide_eq_false_iff_not, decide_eq_false_iff_not] at hb
            rcases Nat.lt_or_ge l k with h3 | h3
            · exact hl l h3
            · rw [show l = k by omega]
              omega
        · subst hσ
          rw [List.length_map] at hl
          refine fun H3 e3 => ⟨_, _, rfl, e2.trans e3, fun j r2 hji hr2 => ?_⟩
          rcases Nat.lt_or_ge j i with h3 | h3
          · exact hj j r2 h3 hr2
          · obtain rfl : j = i := by omega
            rw [hRi] at hr2
            obtain rfl := Option.some.inj hr2
            exact ⟨by omega, fun x hx => by obtain ⟨l, hl2, rfl⟩ := mem_at0 hx; exact hl l hl2⟩
      · subst hσ
        have hB1 := hB.up e1
        have hs1 := ex_t e1 hs
        have hq1 := ex_t e1 hq0
        have hgood : GoodB c R := ⟨hz, hz2, fun i r hr => hj i r (by rw [hlen]; exact (List.getElem?_eq_some_iff.mp hr).1) hr⟩
        exact go_retP (P := RwV K [((R.getD 0 []).length : Int), (R.length : Int)]) (ep_U (eu_tup (vs := [.int ((R.getD 0 []).length : Int), .int (R.length : Int)]) (ea_cons (ev_lenTI (ev_ixT (i := ((0 : Nat) : Int)) (ev_var rfl) ev_c hs1 (atI_nat ha0)) hq1) (ea_cons (ev_lenB (ev_var rfl) hB1) ea_nil)) (by show (2 : Nat) ≤ 100000; decide)) fun t H2 _ ht => ⟨t, rfl, st_of ht⟩) fun v H2 e2 hv => q hgood v H2 (e1.trans e2) hv
/-! #### read_board -/
/-- a board's text -/
def textB (R : List (List Int)) : Str := Str.join ("\n" : Str) (R.map sgnX ++ [("" : Str)])
theorem sgn_len (r : List Int) : (sgnX r).length = r.length := by
  show (sgnX r).cps.size = _
  exact sgn_size r
theorem sgn_nl {r : List Int} (h : ∀ x ∈ r, 0 ≤ x ∧ x < 3) : 10 ∉ TL.tl (sgnX r) := by
  intro hc
  have : 10 ∈ (r.map fun x => 48 + x.toNat) := hc
  obtain ⟨x, hx, e⟩ := List.mem_map.mp this
  have := h x hx
  omega
theorem textB_len {h w : Nat} {f : Int → Int → Int} (hh : h ≤ 16) (hw : w ≤ 16) : (textB (mk h w f)).length ≤ 1000 := by
  have a := joinTx_le (b := 16) ("\n" : Str) ((mk h w f).map sgnX ++ [("" : Str)]) fun p hp => by
    rcases List.mem_append.mp hp with hp | hp
    · obtain ⟨r, hr, rfl⟩ := List.mem_map.mp hp
      unfold mk at hr
      obtain ⟨i, _, rfl⟩ := List.mem_map.mp hr
      rw [sgn_len, len_rowOf]
      exact hw
    · rw [List.mem_singleton.mp hp]
      decide
  have e : ((mk h w f).map sgnX ++ [("" : Str)]).length = h + 1 := by rw [List.length_append, List.length_map, len_mk]; rfl
  have e1 : ("\n" : Str).length = 1 := by decide
  rw [e, e1] at a
  unfold textB
  have : (h + 1) * 16 ≤ 17 * 16 := Nat.mul_le_mul_right _ (by omega)
  omega
theorem spp_row_of {K : PySem.W.Frag} {H : Hp} {r : List Int} (h : ∀ x ∈ r, 0 ≤ x ∧ x < 3) (hl : r.length ≤ 100) : SpP (sp_row_of K) [.str (sgnX r)] H (RwV K r) := fun H1 e Q q E => ⟨r, rfl, h, hl, q⟩
theorem row_in {h w : Nat} {c : Int} {f : Int → Int → Int} (hf : Bnd h w c f) (hc : c ≤ 3) {i : Nat} (hi : i < h) : ∀ x ∈ rowOf w (f (i : Int)), 0 ≤ x ∧ x < 3 := by
  intro x hx
  obtain ⟨j, hj, rfl⟩ := mem_at0 hx
  rw [len_rowOf] at hj
  rw [at0_rowOf (by omega) (by omega)]
  have := hf (i : Int) (j : Int) (by omega) (by omega) (by omega) (by omega)
  omega
theorem getD_of {R : List (List Int)} {r : List Int} (h : R[0]? = some r) : R.getD 0 [] = r := by rw [List.getD_eq_getElem?_getD, h]; rfl
theorem good_mk {hh ww : Nat} {c : Int} {f : Int → Int → Int} (h1 : 1 ≤ hh) (h2 : hh ≤ 8) (w1 : 1 ≤ ww) (w2 : ww ≤ 8) (hf : Bnd (2 * hh) (2 * ww) c f) : GoodB c (mk (2 * hh) (2 * ww) f) := by
  have e0 : ((mk (2 * hh) (2 * ww) f).getD 0 []).length = 2 * ww := by rw [getD_of (mk_get (by omega)), len_rowOf]
  refine ⟨?_, ?_, fun i r hr => ?_⟩
  · rw [len_mk]
    exact sizeT_iff.mpr (by omega)
  · rw [e0]
    exact sizeT_iff.mpr (by omega)
  · have hi : i < 2 * hh := by have := (List.getElem?_eq_some_iff.mp hr).1; rwa [len_mk] at this
    rw [mk_get hi] at hr
    rw [← Option.some.inj hr, e0]
    refine ⟨len_rowOf _ _, fun x hx => ?_⟩
    obtain ⟨j, hj, rfl⟩ := mem_at0 hx
    rw [len_rowOf] at hj
    rw [at0_rowOf (by omega) (by omega)]
    exact hf _ _ (by omega) (by omega) (by omega) (by omega)
def sp_read_board (K : PySem.W.Frag) : Sp := fun vs H Q _ => ∃ (hh ww : Nat) (f : Int → Int → Int) (c : Int), vs = [.str (textB (mk (2 * hh) (2 * ww) f)), .int c] ∧ 1 ≤ hh ∧ hh ≤ 8 ∧ 1 ≤ ww ∧ ww ≤ 8 ∧ c ≤ 3 ∧ Bnd (2 * hh) (2 * ww) c f ∧ RetP (BdV K (mk (2 * hh) (2 * ww) f)) H Q
theorem spp_read_board {K : PySem.W.Frag} {H : Hp} {hh ww : Nat} {f : Int → Int → Int} {c : Int} (h1 : 1 ≤ hh) (h2 : hh ≤ 8) (w1 : 1 ≤ ww) (w2 : ww ≤ 8) (c1 : c ≤ 3) (hf : Bnd (2 * hh) (2 * ww) c f) : SpP (sp_read_board K) [.str (textB (mk (2 * hh) (2 * ww) f)), .int c] H (BdV K (mk (2 * hh) (2 * ww) f)) :=
  fun H1 e Q q E => ⟨hh, ww, f, c, rfl, h1, h2, w1, w2, c1, hf, q⟩
theorem cal_read_board {P : Program} {w : World} {K : PySem.W.Frag} {mg : Str → Option Value} {base : Heap} {f : Addr} {fd : FuncData} (Bt : Bl mg) (D : DefAt K mg "read_board" s_read_board ["text", "colours"] f fd) (C_lines_of : CalE P w K mg base CX0 1 "lines_of" ["text"] (sp_lines_of K)) (C_row_of : CalE P w K mg base CX0 1 "row_of" ["line"] (sp_row_of K)) (C_looked_board : CalE P w K mg base CX0 2 "looked_board" ["board", "colours"] (sp_looked_board K)) :
    CalE P w K mg base CX0 3 "read_board" ["text", "colours"] (sp_read_board K) := by
  obtain ⟨f_lines_of, fd_lines_of, G_lines_of, g_lines_of, k_lines_of, b_lines_of⟩ := C_lines_of.ex
  obtain ⟨f_row_of, fd_row_of, G_row_of, g_row_of, k_row_of, b_row_of⟩ := C_row_of.ex
  obtain ⟨f_looked_board, fd_looked_board, G_looked_board, g_looked_board, k_looked_board, b_looked_board⟩ := C_looked_board.ex
  refine ⟨f, fd, D.F.ok sc_read_board (fun vs H Q E h => ?_) (fun cdv A outer s H vs Q E hRm h => ?_), D.g, D.F.kp, D.b⟩
  · obtain ⟨hh, ww, f, c, rfl, _⟩ := h; rfl
  · obtain ⟨hh, ww, f, c, rfl, h1, h2, w1, w2, c1, hf, q⟩ := h
    have hl : (((mk (2 * hh) (2 * ww) f).map sgnX).map V.str).length = 2 * hh := by rw [List.length_map, List.length_map, len_mk]
    have ht := textB_len (h := 2 * hh) (w := 2 * ww) (f := f) (by omega) (by omega)
    refine ⟨_, (pss_cons (ps_set (i := 2) sc_read_board.nd rfl (Or.inl rfl) (pe_callTy (call_tupK (K := K) rfl) (by rfl) Bt.tuple_ (by decide +kernel) (pa_cons (pe_lc (own := [("line", 3)]) (g := gName 3) (by rfl) sc_read_board.nd (pi_listK (K := K) rfl (pe_call G_lines_of (hRm.mono (by decide)) (by rfl) g_lines_of k_lines_of b_lines_of .nil pass0 (pa_cons (pv 0) pa_nil))) (blkOk_by (own := [("line", 3)]) (N := ["text", "colours", "board", "line"]) (sc := defScope s_read_board) (by decide +kernel)) (fun _ _ _ _ _ => pg_name (i := 3) sc_read_board.nd rfl (Or.inl rfl)) (fun _ _ _ _ _ => pts_nil) (fun _ _ _ _ _ => (pe_call G_row_of (hRm.mono (by decide)) (by rfl) g_row_of k_row_of b_row_of .nil pass0 (pa_cons (pv 3) pa_nil)))) pa_nil)))
 (pss_cons (ps_try_thru0 (pss_one (ps_expr (pe_call G_looked_board (hRm.mono (by decide)) (by rfl) g_looked_board k_looked_board b_looked_board .nil pass0 (pa_cons (pv 2) (pa_cons (pv 1) pa_nil))))))
 (pss_one (ps_ret (pv 2))))), Go.at ?_⟩
    refine go_asgP (P := BdV K (mk (2 * hh) (2 * ww) f)) (ep_weak (ep_tupLP (n := (((mk (2 * hh) (2 * ww) f).map sgnX).map V.str).length) (P := fun i => RwV K (rowOf (2 * ww) (f (i : Int)))) (fun i => rw_imm _ |>.mono) (elp_NL (K := K) (fun i => rw_imm _) (el_call (ea_cons (ev_var rfl) ea_nil) (spl_lines_of (ps := (mk (2 * hh) (2 * ww) f).map sgnX) (fun p hp => ?_) (by rw [List.length_map, len_mk]; omega) (by unfold textB at ht; omega))) (by omega) (fun _ => rfl) fun i x hi => ?_)) fun v H1 _ hp => ?_) fun v H1 e1 hv => ?_
    · obtain ⟨r, hr, rfl⟩ := List.mem_map.mp hp
      unfold mk at hr
      obtain ⟨i, hi, rfl⟩ := List.mem_map.mp hr
      exact sgn_nl (row_in hf c1 (List.mem_range.mp hi))
    · have hi2 : i < 2 * hh := by rw [← hl]; exact (List.getElem?_eq_some_iff.mp hi).1
      rw [List.getElem?_map, List.getElem?_map, mk_get hi2] at hi
      have hi := Option.some.inj hi
      subst hi
      exact ep_call (ea_cons (ev_var rfl) ea_nil) (spp_row_of (row_in hf c1 hi2) (by rw [len_rowOf]; omega))
    · rw [hl] at hp
      exact bd_of hp
    · refine go_dropP (P := RwV K _) (ep_call (ea_cons (ev_var rfl) (ea_cons (ev_var rfl) ea_nil)) (spp_looked_board hv (good_mk h1 h2 w1 w2 hf))) fun H2 e2 => ?_
      exact go_ret (ev_var rfl) fun H3 e3 => q v H3 ((e1.trans e2).trans e3) (hv.up (e2.trans e3))
/-! #### _law_whole -/
def sp__law_whole (K : PySem.W.Frag) : Sp := fun vs H Q _ => ∃ (i : Int), vs = [.int i] ∧ RetV (.bl true) H Q
theorem spv__law_whole {K : PySem.W.Frag} {H : Hp} {i : Int} : SpV (sp__law_whole K) [.int i] H (.bl true) := fun H1 e Q q E => ⟨i, rfl, q⟩
local macro_rules | `(tactic| walk_at "sp") => `(tactic| exact spv__law_whole)
theorem cal__law_whole {P : Program} {w : World} {K : PySem.W.Frag} {mg : Str → Option Value} {base : Heap} {f : Addr} {fd : FuncData} (Bt : Bl mg) (D : DefAt K mg "_law_whole" s__law_whole ["found"] f fd)  :
    CalE P w K mg base CX0 1 "_law_whole" ["found"] (sp__law_whole K) := by
  refine ⟨f, fd, D.F.ok sc__law_whole (fun vs H Q E h => ?_) (fun cdv A outer s H vs Q E hRm h => ?_), D.g, D.F.kp, D.b⟩
  · obtain ⟨i, rfl, _⟩ := h; rfl
  · obtain ⟨i, rfl, q⟩ := h
    refine ⟨_, (pss_one (ps_ret (pe_and (pe_callB (call_isiK1 (K := K) rfl) (by rfl) Bt.isinstance_ (by decide +kernel) (pa_cons (pv 0) (pa_cons (pe_bltn (v := .ty "int") (by rfl) Bt.int_ (by decide +kernel) rfl) pa_nil))) (pe_one (pe_not (pe_callB (call_isiK1 (K := K) rfl) (by rfl) Bt.isinstance_ (by decide +kernel) (pa_cons (pv 0) (pa_cons (pe_bltn (v := .ty "bool") (by rfl) Bt.bool_ (by decide +kernel) rfl) pa_nil)))))))), Go.at ?_⟩
    refine go_ret (ev_andV (a := true) (b := !false) ?_ (fun _ => ev_notV ?_)) q
    · exact ev_cb (ea_cons (ev_var rfl) (ea_cons ev_c ea_nil)) (rc_isi (.ty "int") (fun H1 _ => .base (.int i)) (kit_ty (by decide +kernel)))
    · exact ev_cb (ea_cons (ev_var rfl) (ea_cons ev_c ea_nil)) (rc_isi (.ty "bool") (fun H1 _ => .base (.int i)) (kit_ty (by decide +kernel)))
/-! #### _law_is_board -/
def sp__law_is_board (K : PySem.W.Frag) : Sp := fun vs H Q _ => ∃ (v u : V) (B C : List (List Int)), vs = [v, u] ∧ BdV K B v H ∧ BdV K C u H ∧ B.length ≤ 1000 ∧ (∀ r ∈ B, r.length ≤ 1000) ∧ RetV (.bl (decide (B = C))) H Q
theorem spv__law_is_board {K : PySem.W.Frag} {H : Hp} {v u : V} {B C : List (List Int)} (h1 : BdV K B v H) (h2 : BdV K C u H) (h3 : B.length ≤ 1000) (h4 : ∀ r ∈ B, r.length ≤ 1000) : SpV (sp__law_is_board K) [v, u] H (.bl (decide (B = C))) :=
  fun H1 e Q q E => ⟨v, u, B, C, rfl, h1.up e, h2.up e, h3, h4, q⟩
theorem row_mk {h w : Nat} {f : Int → Int → Int} (hw : w ≤ 1000) : ∀ r ∈ mk h w f, r.length ≤ 1000 := by
  intro r hr
  unfold mk at hr
  obtain ⟨y, _, rfl⟩ := List.mem_map.mp hr
  rw [len_rowOf]
  exact hw
theorem spv_isM {K : PySem.W.Frag} {H : Hp} {v u : V} {h w h' w' : Nat} {f g : Int → Int → Int} (h1 : BdV K (mk h w f) v H) (h2 : BdV K (mk h' w' g) u H) (h3 : h ≤ 1000) (h4 : w ≤ 1000) : SpV (sp__law_is_board K) [v, u] H (.bl (decide (mk h w f = mk h' w' g))) :=
  spv__law_is_board h1 h2 (by rw [len_mk]; exact h3) (row_mk h4)
theorem ev_isP {K : PySem.W.Frag} {σ : L2.St} {H : Hp} {te tb : TE} {E : XK} {u : V} {h w h' w' : Nat} {f g : Int → Int → Int} (ha : EvP te σ H (BdV K (mk h w f))) (hb : Ev tb σ H u) (hu : BdV K (mk h' w' g) u H) (h3 : h ≤ 1000) (h4 : w ≤ 1000) : Ev (tCall (sp__law_is_board K) [] E (tCons te (tCons tb tNil))) σ H (.bl (decide (mk h w f = mk h' w' g))) :=
  fun H1 e Q q => ha H1 e _ fun v H2 e2 p => hb H2 (e.trans e2) _ fun H3 e3 => spv_isM (p.up e3) (hu.up ((e.trans e2).trans e3)) h3 h4 H3 (Ex.refl H3) Q (fun H4 e4 => q H4 ((e2.trans e3).trans e4)) E
theorem ev_isPP {K : PySem.W.Frag} {σ : L2.St} {H : Hp} {te tb : TE} {E : XK} {h w h' w' : Nat} {f g : Int → Int → Int} (ha : EvP te σ H (BdV K (mk h w f))) (hb : EvP tb σ H (BdV K (mk h' w' g))) (h3 : h ≤ 1000) (h4 : w ≤ 1000) : Ev (tCall (sp__law_is_board K) [] E (tCons te (tCons tb tNil))) σ H (.bl (decide (mk h w f = mk h' w' g))) :=
  fun H1 e Q q => ha H1 e _ fun v H2 e2 p => hb H2 (e.trans e2) _ fun u H3 e3 hu => spv_isM (p.up e3) hu h3 h4 H3 (Ex.refl H3) Q (fun H4 e4 => q H4 ((e2.trans e3).trans e4)) E
theorem ev_isVP {K : PySem.W.Frag} {σ : L2.St} {H : Hp} {te tb : TE} {E : XK} {v : V} {h w h' w' : Nat} {f g : Int → Int → Int} (ha : Ev te σ H v) (hv : BdV K (mk h w f) v H) (hb : EvP tb σ H (BdV K (mk h' w' g))) (h3 : h ≤ 1000) (h4 : w ≤ 1000) : Ev (tCall (sp__law_is_board K) [] E (tCons te (tCons tb tNil))) σ H (.bl (decide (mk h w f = mk h' w' g))) :=
  ev_isPP (ep_of ha fun H1 e => hv.up e) hb h3 h4
local macro_rules | `(tactic| walk_at "sp") => `(tactic| exact spv_isM (by assumption) (by assumption) (by omega) (by omega))
theorem cal__law_is_board {P : Program} {w : World} {K : PySem.W.Frag} {mg : Str → Option Value} {base : Heap} {f : Addr} {fd : FuncData} (Bt : Bl mg) (D : DefAt K mg "_law_is_board" s__law_is_board ["found", "due"] f fd) (C__law_whole : CalE P w K mg base CX0 1 "_law_whole" ["found"] (sp__law_whole K)) :
    CalE P w K mg base CX0 2 "_law_is_board" ["found", "due"] (sp__law_is_board K) := by
  obtain ⟨f__law_whole, fd__law_whole, G__law_whole, g__law_whole, k__law_whole, b__law_whole⟩ := C__law_whole.ex
  refine ⟨f, fd, D.F.ok sc__law_is_board (fun vs H Q E h => ?_) (fun cdv A outer s H vs Q E hRm h => ?_), D.g, D.F.kp, D.b⟩
  · obtain ⟨v, u, B, C, rfl, _⟩ := h; rfl
  · obtain ⟨v, u, B, C, rfl, hB, hC, h3, h4, q⟩ := h
    obtain ⟨p, vs, rfl, hs, hl, hr⟩ := id hB
    have hlB := ev_lenB (σ := L2.start ["found", "due", "row", "cell"] [.ref p, u]) (ta := tVar 0) (ev_var rfl) hB
    have hlC := ev_lenB (σ := L2.start ["found", "due", "row", "cell"] [.ref p, u]) (ta := tVar 1) (ev_var rfl) hC
    refine ⟨_, (pss_cons (ps_if (PW.pt (pw_or (pt_not (pt_val (pe_callB (call_isiK1 (K := K) rfl) (by rfl) Bt.isinstance_ (by decide +kernel) (pa_cons (pv 0) (pa_cons (pe_bltn (v := .ty "tuple") (by rfl) Bt.tuple_ (by decide +kernel) rfl) pa_nil))))) (pw_or1 (pt_cmpR op_ne (pe_callB (call_lenK (K := K) rfl) (by rfl) Bt.len_ (by decide +kernel) (pa_cons (pv 0) pa_nil)) (pe_callB (call_lenK (K := K) rfl) (by rfl) Bt.len_ (by decide +kernel) (pa_cons (pv 1) pa_nil)) (nomark _))))) (pss_one (ps_ret pe_bl)) pss_nil)
 (pss_cons (ps_for PassesOwn.never rfl (pi_tupK (K := K) rfl (pv 0)) (pg_name (i := 2) sc__law_is_board.nd rfl (Or.inl rfl))
 (pss_one (ps_if (PW.pt (pw_or (pt_not (pt_val (pe_callB (call_isiK1 (K := K) rfl) (by rfl) Bt.isinstance_ (by decide +kernel) (pa_cons (pv 2) (pa_cons (pe_bltn (v := .ty "tuple") (by rfl) Bt.tuple_ (by decide +kernel) rfl) pa_nil))))) (pw_or1 (pt_cmpR op_gt (pe_callB (call_lenK (K := K) rfl) (by rfl) Bt.len_ (by decide +kernel) (pa_cons (pe_lc (own := [("cell", 3)]) (g := gName 3) (by rfl) sc__law_is_board.nd (pi_tupK (K := K) rfl (pv 2)) (blkOk_by (own := [("cell", 3)]) (N := ["found", "due", "row", "cell"]) (sc := defScope s__law_is_board) (by decide +kernel)) (fun _ _ _ _ _ => pg_name (i := 3) sc__law_is_board.nd rfl (Or.inl rfl)) (fun _ _ _ _ _ => pts_one (pt_not (pt_val (pe_call G__law_whole (hRm.mono (by decide)) (by rfl) g__law_whole k__law_whole b__law_whole .nil pass0 (pa_cons (pv 3) pa_nil))))) (fun _ _ _ _ _ => (pv 3))) pa_nil)) pe_int (nomark _))))) (pss_one (ps_ret pe_bl)) pss_nil)))
 (pss_one (ps_ret (pe_cmpR (op_eqDK (K := K) rfl hRm.units) (pv 0) (pv 1) (nomark _)))))), Go.at ?_⟩
    refine go_whenb (b := !true || decide ((B.length : Int) ≠ C.length)) (et_or (et_not (et_B (ev_isiT (ev_var rfl) hs))) (fun _ => et_test (ev_op hlB hlC rv_neI))) (fun h1 => ?_) (fun h1 => ?_)
    · refine go_ret (ev_is ev_c ?_) q
      have hne : B ≠ C := fun z => by rw [z] at h1; simp at h1
      rw [decide_eq_false hne]
    · refine go_forT (a := p) (ev_var rfl) hs (fun i σ' H' => ∃ y, σ' = [some (.ref p), some u, y, none] ∧ Ex H H') (fun H1 e1 => ⟨_, rfl, e1⟩) (fun i σ' H' _ ⟨y, _, e⟩ => ex_t e hs) (fun i x σ' H' hi ⟨y, hσ, e⟩ => ?_) (fun σ' H' ⟨y, hσ, e⟩ => ?_)
      · subst hσ
        have hib : i < B.length := by rw [← hl]; exact (List.getElem?_eq_some_iff.mp hi).1
        obtain ⟨a, rfl, ha⟩ := hr i x _ hi (List.getElem?_eq_getElem hib)
        have hlr := h4 _ (List.getElem_mem hib)
        have ha' := ex_t e ha
        refine gl_whenb (b := !true || decide (0 < ((given (B[i].map V.int).length (fun _ => false) (fun _ => V.non)).length : Int))) (et_or (et_not (et_B (ev_isiT (ev_var rfl) ha'))) (fun _ => et_test (ev_op (ev_lenN (el_lcT (fun _ => false) (fun _ => .non) (ev_var rfl) ha' (by rw [List.length_map]; omega) (fun _ => rfl)
          (fun i x H1 e hx => by obtain ⟨rfl, _⟩ := at0_of hx; exact et_not (et_B (ev_call (ea_cons (ev_var rfl) ea_nil) spv__law_whole))) (fun _ _ _ _ _ hf => by cases hf))) ev_c rv_I0))) (fun h2 => ?_) (fun h2 => fun H2 e2 => ⟨_, rfl, e.trans e2⟩)
        rw [given_none] at h2
        simp at h2
      · subst hσ
        have hB' := hB.up e
        have hC' := hC.up e
        exact go_ret (ev_op (ev_var rfl) (ev_var rfl) (rv_eqB hB' hC')) fun H1 e1 => q H1 (e.trans e1)
/-! #### rule_shown -/
def numX (r : List Int) : List Str := r.map fun i => (toString i : Str)
def ruleX (r : List Int) (c : Int) : Str := ("rule " : Str) ++ (toString c : Str) ++ ("\n" : Str) ++ Txt.join (" " : Str) (numX r) ++ ("\n" : Str)
theorem sum_le : ∀ (ys : List Str), (∀ y ∈ ys, y.length ≤ 2) → (ys.map (·.length)).sum ≤ ys.length * 2
  | [], _ => by simp
  | y :: ys, h => by
    have h1 := h y (by simp)
    have h2 := sum_le ys fun z hz => h z (List.mem_cons_of_mem _ hz)
    simp only [List.map_cons, List.sum_cons, List.length_cons]
    omega
theorem log_small {i : Int} (h0 : 0 ≤ i) (h1 : i < 81) : i.natAbs.log2 < 1920 := by
  have : i.natAbs < 2 ^ 1920 := Nat.lt_of_lt_of_le (show i.natAbs < 2 ^ 7 by omega) (Nat.pow_le_pow_right (by decide) (by decide))
  by_cases hz : i.natAbs = 0
  · rw [hz]; decide
  · exact (Nat.log2_lt hz).mpr this
def sp_rule_shown (K : PySem.W.Frag) : Sp := fun vs H Q _ => ∃ (a : Addr) (r : List Int) (c : Int), vs = [.ref a, .int c] ∧ SqL K H a (r.map V.int) ∧ 2 ≤ c ∧ c ≤ 3 ∧ r.length ≤ 81 ∧ (∀ x ∈ r, 0 ≤ x ∧ x < 81) ∧ RetV (.str (ruleX r c)) H Q
theorem ev_ruleX {K : PySem.W.Frag} {σ : L2.St} {H : Hp} {tc tl : TE} {r : List Int} {c : Int} (hc : Ev tc σ H (.int c)) (hl : EvL tl σ H ((numX r).map V.str)) (c0 : 2 ≤ c) (c1 : c ≤ 3) (hr : r.length ≤ 81) (hx : ∀ x ∈ r, 0 ≤ x ∧ x < 81) :
    Ev (tOp (fun x y H Q => ∃ i j, x = V.str i ∧ y = V.str j ∧ i.length + j.length ≤ sizeLine ∧ Q (.str (i ++ j)) H) (tOp (fun x y H Q => ∃ i j, x = V.str i ∧ y = V.str j ∧ i.length + j.length ≤ sizeLine ∧ Q (.str (i ++ j)) H) (tOp (fun x y H Q => ∃ i j, x = V.str i ∧ y = V.str j ∧ i.length + j.length ≤ sizeLine ∧ Q (.str (i ++ j)) H) (tOp (fun x y H Q => ∃ i j, x = V.str i ∧ y = V.str j ∧ i.length + j.length ≤ sizeLine ∧ Q (.str (i ++ j)) H) (tC (.str "rule ")) (tCB (fun xs H Q => ∃ i : Int, xs = [V.int i] ∧ i.natAbs.log2 < 1920 ∧ Q (.str (toString i)) H) (tCons tc tNil))) (tC (.str "\n")))
      (tM1 (fun x xs H Q => ∃ a p, ∃ ys : List Str, x = V.str a ∧ xs = [.ref p] ∧ (SqL K H p (ys.map V.str) ∨ SqT K H p (ys.map V.str)) ∧ (ys.map (·.length)).sum + ys.length * a.length ≤ 16777216 ∧ Q (.str (Txt.join a ys)) H) (tC (.str " ")) tl)) (tC (.str "\n"))) σ H (.str (ruleX r c)) := by
  have hcl := str_small (i := c) (by omega) (by omega)
  have hs := sum_le (numX r) fun y hy => by
    obtain ⟨i, hi, rfl⟩ := List.mem_map.mp hy
    exact str_small (hx i hi).1 (hx i hi).2
  have hnl : (numX r).length = r.length := List.length_map ..
  have e1 : ("rule " : Str).length = 5 := by decide
  have e2 : ("\n" : Str).length = 1 := by decide
  have e3 : (" " : Str).length = 1 := by decide
  have hj := join_len (" " : Str) (numX r)
  rw [e3, hnl] at hj
  rw [hnl] at hs
  have hz : (16777216 : Nat) ≤ sizeLine := by rw [sizeLine_eq]; exact Nat.le_refl _
  refine ev_op (ev_op (ev_op (ev_op ev_c (ev_strI hc (log_small (by omega) (by omega))) (rv_addS ?_)) ev_c (rv_addS ?_)) (ev_join ev_c hl ?_) (rv_addS ?_)) ev_c (rv_addS ?_)
  · omega
  · rw [len_app]; omega
  · rw [hnl, e3]; omega
  · rw [len_app, len_app]; omega
  · rw [len_app, len_app, len_app]; omega
theorem cal_rule_shown {P : Program} {w : World} {K : PySem.W.Frag} {mg : Str → Option Value} {base : Heap} {f : Addr} {fd : FuncData} (Bt : Bl mg) (D : DefAt K mg "rule_shown" s_rule_shown ["rule", "colours"] f fd)  :
    CalE P w K mg base CX0 1 "rule_shown" ["rule", "colours"] (sp_rule_shown K) := by
  refine ⟨f, fd, D.F.ok sc_rule_shown (fun vs H Q E h => ?_) (fun cdv A outer s H vs Q E hRm h => ?_), D.g, D.F.kp, D.b⟩
  · obtain ⟨a, r, c, rfl, _⟩ := h; rfl
  · obtain ⟨a, r, c, rfl, hS, c0, c1, hl, hx, q⟩ := h
    refine ⟨_, (pss_one (ps_ret (pe_op op_add_str (pe_op op_add_str (pe_op op_add_str (pe_op op_add_str pe_str (pe_callTy call_str_int (by rfl) Bt.str_ (by decide +kernel) (pa_cons (pv 1) pa_nil))) pe_str) (pe_joinK (K := K) rfl pe_str (pe_lc (own := [("number", 2)]) (g := gName 2) (by rfl) sc_rule_shown.nd (pi_listK (K := K) rfl (pv 0)) (blkOk_by (own := [("number", 2)]) (N := ["rule", "colours", "number"]) (sc := defScope s_rule_shown) (by decide +kernel)) (fun _ _ _ _ _ => pg_name (i := 2) sc_rule_shown.nd rfl (Or.inl rfl)) (fun _ _ _ _ _ => pts_nil) (fun _ _ _ _ _ => (pe_callTy call_str_int (by rfl) Bt.str_ (by decide +kernel) (pa_cons (pv 2) pa_nil)))))) pe_str))), Go.at ?_⟩
    refine go_ret (ev_ruleX (ev_var rfl) ?_ c0 c1 hl hx) q
    have := el_mapL (K := K) (te := tCB (fun xs H Q => ∃ i : Int, xs = [V.int i] ∧ i.natAbs.log2 < 1920 ∧ Q (.str (toString i)) H) (tCons (tVar 2) tNil)) (σ := [some (.ref a), some (.int c), none]) (H := H) (tl := tVar 0) (j := 2) (vs := [2]) (fun x => V.str (toString x)) (ev_var rfl) hS (by omega) (fun _ => rfl) (fun x hxm => ev_strI (ev_var rfl) (log_small (hx x hxm).1 (hx x hxm).2))
    unfold numX
    rw [List.map_map]
    exact this
/-! #### whole_of -/
def figS : Str := "0123456789"
/-- what a word writes -/
def wordV (w : Str) : Option Int :=
  if w.length = 0 ∨ 2 < w.length ∨ (w.cps.toList.headD 0 = 48 ∧ w ≠ ("0" : Str)) ∨ ¬ (∀ c ∈ w.cps.toList, c ∈ figS.cps.toList) then none else PySem.intText? w
theorem fig_dig : figS.cps.toList = [48, 49, 50, 51, 52, 53, 54, 55, 56, 57] := by decide +kernel
theorem dig1 : ∀ a ∈ ([48, 49, 50, 51, 52, 53, 54, 55, 56, 57] : List Nat), (PySem.intText? (⟨#[a]⟩ : Str)).isSome = true := by decide +kernel
theorem dig2 : ∀ a ∈ ([48, 49, 50, 51, 52, 53, 54, 55, 56, 57] : List Nat), ∀ b ∈ ([48, 49, 50, 51, 52, 53, 54, 55, 56, 57] : List Nat), (PySem.intText? (⟨#[a, b]⟩ : Str)).isSome = true := by decide +kernel
theorem word_some {w : Str} (h0 : w.length ≠ 0) (h2 : w.length ≤ 2) (hd : ∀ c ∈ w.cps.toList, c ∈ figS.cps.toList) : ∃ n, PySem.intText? w = some n := by
  rw [fig_dig] at hd
  have hl : w.length = w.cps.toList.length := TL.len_tl w
  have hw : w = ⟨w.cps.toList.toArray⟩ := (TL.mk_tl w).symm
  generalize w.cps.toList = l at *
  subst hw
  match l, hd with
  | [], _ => exact absurd hl h0
  | [a], hd => exact Option.isSome_iff_exists.mp (dig1 a (hd a (by simp)))
  | [a, b], hd => exact Option.isSome_iff_exists.mp (dig2 a (hd a (by simp)) b (hd b (by simp)))
  | _ :: _ :: _ :: _, _ => simp only [List.length_cons] at hl; omega
def sp_whole_of (K : PySem.W.Frag) : Sp := fun vs H Q E => ∃ w : Str, vs = [.str w] ∧ w.length ≤ 1000 ∧ (∀ n, wordV w = some n → RetV (.int n) H Q) ∧ (wordV w = none → RaiseC K "BadNote" H E)
theorem spv_whole_of {K : PySem.W.Frag} {H : Hp} {w : Str} {n : Int} (h : wordV w = some n) (hl : w.length ≤ 1000) : SpV (sp_whole_of K) [.str w] H (.int n) :=
  fun H1 e Q q E => ⟨w, rfl, hl, fun m hm => by rw [h] at hm; cases hm; exact q, fun z => by rw [h] at z; cases z⟩
theorem cal_whole_of {P : Program} {w : World} {K : PySem.W.Frag} {mg : Str → Option Value} {base : Heap} {f : Addr} {fd : FuncData} (Bt : Bl mg) (D : DefAt K mg "whole_of" s_whole_of ["word"] f fd) {C_BlockError C_NoBoard C_NoRule C_NotBack C_BadNote : Addr} (Cl : Cls K mg C_BlockError C_NoBoard C_NoRule C_NotBack C_BadNote) {V_FIGURES : Tok} (C_FIGURES : mg "FIGURES" = some (Value.str "0123456789" V_FIGURES))  :
    CalE P w K mg base CX0 1 "whole_of" ["word"] (sp_whole_of K) := by
  refine ⟨f, fd, D.F.ok sc_whole_of (fun vs H Q E h => ?_) (fun cdv A outer s H vs Q E hRm h => ?_), D.g, D.F.kp, D.b⟩
  · obtain ⟨w, rfl, _⟩ := h; rfl
  · obtain ⟨w, rfl, hl, q, qe⟩ := h
    have hz : (16777216 : Nat) ≤ sizeLine := by rw [sizeLine_eq]; exact Nat.le_refl _
    have e0 : (w = ("" : Str)) ↔ w.length = 0 := by
      rw [TL.len_tl]
      constructor
      · intro z; rw [z]; rfl
      · intro z
        exact TL.ext_tl (List.length_eq_zero_iff.mp z)
    refine ⟨_, (pss_cons (ps_if (PW.pt (pw_or (pt_cmpR op_eq (pv 0) pe_str (nomark _)) (pw_or (pt_cmpR op_gt (pe_callB call_len_str (by rfl) Bt.len_ (by decide +kernel) (pa_cons (pv 0) pa_nil)) pe_int (nomark _)) (pw_or1 (PW.pt (pw_and (pt_cmpR op_eq (pe_ix ix_str (pv 0) pe_int (fun _ _ => rfl)) pe_str (nomark _)) (pw_and1 (pt_cmpR op_ne (pv 0) pe_str (nomark _))))))))) (pss_one (ps_raise rfl takes0 (pmk_own PySem.F.excBase_ValueError Cl.BadNote.xP Cl.BadNote.gP Cl.BadNote.kP (raises_own Cl.BadNote.bP Cl.BadNote.tP) (by rfl)))) pss_nil)
 (pss_cons (ps_for PassesOwn.never rfl (pi_str (pv 0)) (pg_name (i := 1) sc_whole_of.nd rfl (Or.inl rfl))
 (pss_one (ps_if (pt_cmpR op_notInS (pv 1) (pe_glob (v := .str "0123456789") rfl C_FIGURES ⟨_, rfl⟩) (by rfl)) (pss_one (ps_raise rfl takes0 (pmk_own PySem.F.excBase_ValueError Cl.BadNote.xP Cl.BadNote.gP Cl.BadNote.kP (raises_own Cl.BadNote.bP Cl.BadNote.tP) (by rfl)))) pss_nil)))
 (pss_one (ps_ret (pe_callTy call_int_str (by rfl) Bt.int_ (by decide +kernel) (pa_cons (pv 0) pa_nil)))))), Go.at ?_⟩
    refine go_whenb (b := decide (w = ("" : Str)) || (decide ((2 : Int) < (w.length : Int)) || (decide ((⟨#[w.cps.toList.headD 0]⟩ : Str) = ("0" : Str)) && decide (w ≠ ("0" : Str)))))
      (et_or (et_test (ev_op (ev_var rfl) ev_c rv_eqS)) (fun h0 => et_or (et_test (ev_op (ev_lenS (ev_var rfl) (by omega)) ev_c rv_I0)) (fun h1 => et_and (et_test (ev_op (ev_op (ev_var rfl) ev_c (BT.rv_ixS (by omega) ?_)) ev_c rv_eqS)) (fun h2 => et_test (ev_op (ev_var rfl) ev_c rv_neS))))) (fun hb => ?_) (fun hb => ?_)
    · have h0 : w ≠ ("" : Str) := of_decide_eq_false h0
      have : w.cps.toList.length ≠ 0 := fun z => h0 (e0.mpr (by rw [TL.len_tl]; exact z))
      cases hc : w.cps.toList with
      | nil => rw [hc] at this; exact absurd rfl this
      | cons c r => exact atI_nat (j := 0) rfl
    · refine fun H1 e1 => qe ?_ _ Cl.BadNote.nP H1 e1
      unfold wordV
      rw [if_pos]
      simp only [Bool.or_eq_true, Bool.and_eq_true, decide_eq_true_eq] at hb
      rcases hb with hb | hb | ⟨hb, hb2⟩
      · exact .inl (e0.mp hb)
      · exact .inr (.inl (by omega))
      · refine .inr (.inr (.inl ⟨?_, hb2⟩))
        have := congrArg TL.tl hb
        have : [w.cps.toList.headD 0] = [48] := this
        exact List.head_eq_of_cons_eq this
    · simp only [Bool.or_eq_false_iff, Bool.and_eq_false_iff, decide_eq_false_iff_not] at hb
      obtain ⟨b0, b1, b2⟩ := hb
      have l0 : w.length ≠ 0 := fun z => b0 (e0.mpr z)
      refine go_forS (ev_var rfl) (fun i σ' H' => ∃ y, σ' = [some (.str w), y] ∧ Ex H H' ∧ ∀ (j c : Nat), j < i → w.cps[j]? = some c → c ∈ figS.cps.toList) (fun H1 e1 => ⟨_, rfl, e1, fun j c hj => by omega⟩) (fun i c σ' H1 hc ⟨y, hσ, e1, hj⟩ => ?_) (fun σ' H1 ⟨y, hσ, e1, hj⟩ => ?_)
      · subst hσ
        refine gl_whenb (b := !decide (c ∈ figS.cps.toList)) (et_test (ev_op (ev_var rfl) ev_c rv_notInS)) (fun z => fun H2 e2 => qe ?_ _ Cl.BadNote.nP H2 (e1.trans e2)) (fun z => fun H2 e2 => ⟨_, rfl, e1.trans e2, fun j d hj2 hd => ?_⟩)
        · unfold wordV
          rw [if_pos]
          refine .inr (.inr (.inr fun k => ?_))
          have := k c (by rw [Array.mem_toList_iff]; exact Array.mem_of_getElem? hc)
          rw [decide_eq_true this] at z
          cases z
        · rcases Nat.lt_or_ge j i with h3 | h3
          · exact hj j d h3 hd
          · obtain rfl : j = i := by omega
            rw [hc] at hd
            cases hd
            rw [Bool.not_eq_false', decide_eq_true_eq] at z
            exact z
      · subst hσ
        have hd : ∀ c ∈ w.cps.toList, c ∈ figS.cps.toList := fun c hc => by
          obtain ⟨j, hj2, e⟩ := List.getElem_of_mem hc
          rw [Array.length_toList] at hj2
          exact hj j c hj2 (by rw [Array.getElem?_eq_getElem hj2, ← e]; rfl)
        obtain ⟨n, hn⟩ := word_some l0 (by omega) hd
        refine go_ret (ev_intS (ev_var rfl) hn (by omega)) fun H2 e2 => q n ?_ H2 (e1.trans e2)
        unfold wordV
        rw [if_neg]
        · exact hn
        · rintro (z | z | ⟨z1, z2⟩ | z)
          · exact l0 z
          · omega
          · rcases b2 with b2 | b2
            · exact b2 (by rw [z1]; decide)
            · exact b2 z2
          · exact z hd
/-! #### looked -/
def InR (c : Int) (ns : List Int) : Prop := ns.length = n4 c ∧ ∀ x ∈ ns, 0 ≤ x ∧ x < n4 c
def movedL (c : Int) (ns : List Int) : List V := given (n4 c) (fun i => decide (at0 ns (i : Int) ≠ (i : Int))) (fun i => V.int (i : Int))
theorem rule_cnt {c : Int} {ns : List Int} (h : InR c ns) (hc : n4 c ≤ cntD ns) : IsRule (n4 c) ns := by
  refine isRule_of h.1 (fun i i0 i1 => h.2 _ (at0_mem i0 (by rw [h.1]; exact i1))) (fun i j i0 i1 j0 j1 e => ?_)
  obtain ⟨i, rfl⟩ := Int.eq_ofNat_of_zero_le i0
  obtain ⟨j, rfl⟩ := Int.eq_ofNat_of_zero_le j0
  have e : ns.getD i 0 = ns.getD j 0 := e
  have hl := h.1
  rcases Nat.lt_trichotomy i j with z | z | z
  · have := cntD_dup z (by omega) e
    omega
  · rw [z]
  · have := cntD_dup z (by omega) e.symm
    omega
def sp_looked (K : PySem.W.Frag) : Sp := fun vs H Q E => ∃ (a : Addr) (ns : List Int) (c : Int), vs = [.ref a, .int c] ∧ SqL K H a (ns.map V.int) ∧ 2 ≤ c ∧ c ≤ 3 ∧ ns.length ≤ 200 ∧
  (IsRule (n4 c) ns → RetV (.int ((movedL c ns).length : Int)) H Q) ∧ (¬ InR c ns → RaiseC K "NoRule" H E) ∧ (InR c ns → ¬ IsRule (n4 c) ns → RaiseC K "NotBack" H E)
theorem inR_of {c : Int} {ns : List Int} (h : IsRule (n4 c) ns) : InR c ns := ⟨h.len, fun x hx => h.mem.mp hx⟩
theorem spv_looked {K : PySem.W.Frag} {H : Hp} {a : Addr} {ns : List Int} {c : Int} (h : SqL K H a (ns.map V.int)) (c0 : 2 ≤ c) (c1 : c ≤ 3) (hr : IsRule (n4 c) ns) : SpV (sp_looked K) [.ref a, .int c] H (.int ((movedL c ns).length : Int)) :=
  fun H1 e Q q E => ⟨a, ns, c, rfl, ex_l e h, c0, c1, by rw [hr.len]; have := (n4_int c0 c1).2.1; omega, fun _ => q, fun z => absurd (inR_of hr) z, fun _ z => absurd hr z⟩
theorem cal_looked {P : Program} {w : World} {K : PySem.W.Frag} {mg : Str → Option Value} {base : Heap} {f : Addr} {fd : FuncData} (Bt : Bl mg) (D : DefAt K mg "looked" s_looked ["rule", "colours"] f fd) {C_BlockError C_NoBoard C_NoRule C_NotBack C_BadNote : Addr} (Cl : Cls K mg C_BlockError C_NoBoard C_NoRule C_NotBack C_BadNote)  :
    CalE P w K mg base CX0 1 "looked" ["rule", "colours"] (sp_looked K) := by
  refine ⟨f, fd, D.F.ok sc_looked (fun vs H Q E h => ?_) (fun cdv A outer s H vs Q E hRm h => ?_), D.g, D.F.kp, D.b⟩
  · obtain ⟨a, ns, c, rfl, _⟩ := h; rfl
  · obtain ⟨a, ns, c, rfl, hS, c0, c1, hle, q, qr, qb⟩ := h
    obtain ⟨hn, hn2, hn3⟩ := n4_int c0 c1
    refine ⟨_, (pss_cons (ps_set (i := 2) sc_looked.nd rfl (Or.inl rfl) (pe_op op_mul (pe_op op_mul (pe_op op_mul (pv 1) (pv 1)) (pv 1)) (pv 1)))
 (pss_cons (ps_if (pt_cmpR op_ne (pe_callB (call_lenK (K := K) rfl) (by rfl) Bt.len_ (by decide +kernel) (pa_cons (pv 0) pa_nil)) (pv 2) (nomark _)) (pss_one (ps_raise rfl takes0 (pmk_own PySem.F.excBase_ValueError Cl.NoRule.xP Cl.NoRule.gP Cl.NoRule.kP (raises_own Cl.NoRule.bP Cl.NoRule.tP) (by rfl)))) pss_nil)
 (pss_cons (ps_for PassesOwn.never rfl (pi_listK (K := K) rfl (pv 0)) (pg_name (i := 3) sc_looked.nd rfl (Or.inl rfl))
 (pss_one (ps_if (PW.pt (pw_or (pt_cmpR op_lt (pv 3) pe_int (nomark _)) (pw_or1 (pt_cmpR op_ge (pv 3) (pv 2) (nomark _))))) (pss_one (ps_raise rfl takes0 (pmk_own PySem.F.excBase_ValueError Cl.NoRule.xP Cl.NoRule.gP Cl.NoRule.kP (raises_own Cl.NoRule.bP Cl.NoRule.tP) (by rfl)))) pss_nil)))
 (pss_cons (ps_if (pt_cmpR op_lt (pe_lenSetN rfl (by rfl) Bt.len_ (by rfl) Bt.set_ (pv 0)) (pv 2) (nomark _)) (pss_one (ps_raise rfl takes0 (pmk_own PySem.F.excBase_ValueError Cl.NotBack.xP Cl.NotBack.gP Cl.NotBack.kP (raises_own Cl.NotBack.bP Cl.NotBack.tP) (by rfl)))) pss_nil)
 (pss_one (ps_ret (pe_callB (call_lenK (K := K) rfl) (by rfl) Bt.len_ (by decide +kernel) (pa_cons (pe_lc (own := [("number", 3)]) (g := gName 3) (by rfl) sc_looked.nd (pi_range1 (by rfl) Bt.range_ (pa_cons (pv 2) pa_nil)) (blkOk_by (own := [("number", 3)]) (N := ["rule", "colours", "many", "number"]) (sc := defScope s_looked) (by decide +kernel)) (fun _ _ _ _ _ => pg_name (i := 3) sc_looked.nd rfl (Or.inl rfl)) (fun _ _ _ _ _ => pts_one (pt_cmpR op_ne (pe_ix (ix_listK (K := K) rfl) (pv 0) (pv 3) (fun _ _ => rfl)) (pv 3) (nomark _))) (fun _ _ _ _ _ => (pv 3))) pa_nil)))))))), Go.at ?_⟩
    refine go_asg (v := .int (n4 c : Int)) (ev_is (v := .int (c * c * c * c)) (by walk_at "ev") (by rw [hn])) ?_
    refine go_when (p := (ns.length : Int) ≠ (n4 c : Int)) (by walk_at "et") (fun h1 => fun H1 e1 => qr (fun z => h1 (by rw [z.1])) _ Cl.NoRule.nP H1 e1) (fun h1 => ?_)
    have hl : ns.length = n4 c := by omega
    refine go_forL (a := a) (ev_var rfl) hS (fun i σ' H' => ∃ y, σ' = [some (.ref a), some (.int c), some (.int (n4 c : Int)), y] ∧ Ex H H' ∧ ∀ j : Nat, j < i → 0 ≤ at0 ns (j : Int) ∧ at0 ns (j : Int) < n4 c)
      (fun H1 e1 => ⟨_, rfl, e1, fun j hj => by omega⟩) (fun i σ' H' _ ⟨_, _, e, _⟩ => ex_l e hS) (fun i x σ' H' hi ⟨y, hσ, e, hj⟩ => ?_) (fun σ' H1 ⟨y, hσ, e1, hj⟩ => ?_)
    · subst hσ
      obtain ⟨rfl, hil⟩ := at0_of hi
      refine gl_whenb (b := decide (at0 ns (i : Int) < 0) || decide ((n4 c : Int) ≤ at0 ns (i : Int))) (by walk_at "et") (fun hb => fun H1 e1 => qr (fun z => ?_) _ Cl.NoRule.nP H1 (e.trans e1)) (fun hb => fun H1 e1 => ⟨_, rfl, e.trans e1, fun j hj2 => ?_⟩)
      · have := z.2 _ (at0_mem (r := ns) (i := (i : Int)) (by omega) (by omega))
        rw [Bool.or_eq_true, decide_eq_true_eq, decide_eq_true_eq] at hb
        omega
      · rw [Bool.or_eq_false_iff, decide_eq_false_iff_not, decide_eq_false_iff_not] at hb
        rcases Nat.lt_or_ge j i with h3 | h3
        · exact hj j h3
        · rw [show j = i by omega]
          omega
    · subst hσ
      rw [List.length_map] at hj
      have hS1 := ex_l e1 hS
      have hIn : InR c ns := ⟨hl, fun x hx => by obtain ⟨j, hj2, rfl⟩ := mem_at0 hx; exact hj j hj2⟩
      refine go_when (p := (cntD ns : Int) < (n4 c : Int)) (et_test (ev_op (ev_lenSet (ev_var rfl) hS1 (by omega)) (ev_var rfl) rv_I0)) (fun h2 => fun H2 e2 => qb hIn (fun z => ?_) _ Cl.NotBack.nP H2 (e1.trans e2)) (fun h2 => ?_)
      · have := cntD_nodup z.nodup
        omega
      · have hru := rule_cnt hIn (by omega)
        refine go_ret (ev_is (ev_lenN (el_lcR1 (n := (n4 c : Int)) (fun i => decide (at0 ns (i : Int) ≠ (i : Int))) (fun i => V.int (i : Int)) (by walk_at "ea") (by omega) (fun _ => rfl) (fun i H2 e2 hi => ?_) (fun i H2 e2 hi _ => ev_var rfl))) (by rw [Int.toNat_natCast]; rfl)) fun H2 e2 => q hru H2 (e1.trans e2)
        have hS2 := ex_l e2 hS1
        exact et_test (ev_op (ev_ixLI (ev_var rfl) (ev_var rfl) hS2 (by omega) (by omega)) (ev_var rfl) rv_neI)
/-! #### read_rule -/
/-- colours and a rule, as they are read: a new list -/
def TldV (H : Hp) (r : List Int) (c : Int) (v : V) (H2 : Hp) : Prop := ∃ t l, v = .ref t ∧ H l = none ∧ H2 t = some (.tup [.int c, .ref l]) ∧ H2 l = some (.lst (r.map V.int))
theorem numX_mem {r : List Int} (h : ∀ x ∈ r, 0 ≤ x ∧ x < 81) {s : Str} (hs : s ∈ numX r) {c : Nat} (hc : c ∈ TL.tl s) : 48 ≤ c ∧ c ≤ 57 := by
  obtain ⟨x, hx, rfl⟩ := List.mem_map.mp hs
  exact num_sigs (h x hx).1 (h x hx).2 hc
theorem num_word : ((List.range 81).all fun n => decide (wordV (toString ((n : Nat) : Int) : Str) = some (n : Int))) = true := by decide +kernel
theorem num_words {i : Int} (h0 : 0 ≤ i) (h1 : i < 81) : wordV (toString i : Str) = some i := by
  obtain ⟨n, rfl⟩ := Int.eq_ofNat_of_zero_le h0
  exact of_decide_eq_true (List.all_eq_true.mp num_word n (List.mem_range.mpr (by omega)))
theorem ruleX_lines (r : List Int) (c : Int) : ruleX r c = Str.join ("\n" : Str) ([("rule " : Str) ++ (toString c : Str), Txt.join (" " : Str) (numX r)] ++ [("" : Str)]) := by
  show ruleX r c = ("rule " : Str) ++ (toString c : Str) ++ ("\n" : Str) ++ (Txt.join (" " : Str) (numX r) ++ ("\n" : Str) ++ ("" : Str))
  rw [app_empty]
  unfold ruleX
  rw [app_assoc _ (Txt.join (" " : Str) (numX r)) ("\n" : Str)]
theorem ruleX_len {r : List Int} {c : Int} (c0 : 2 ≤ c) (c1 : c ≤ 3) (hr : r.length ≤ 81) (hx : ∀ x ∈ r, 0 ≤ x ∧ x < 81) : (ruleX r c).length ≤ 1000 ∧ (Txt.join (" " : Str) (numX r)).length ≤ 900 := by
  have hn : (numX r).length = r.length := List.length_map ..
  have a := joinTx_le (b := 2) (" " : Str) (numX r) fun p hp => by
    obtain ⟨x, hx2, rfl⟩ := List.mem_map.mp hp
    exact str_small (hx x hx2).1 (hx x hx2).2
  rw [← TL.join_eq, hn] at a
  have e1 : ("rule " : Str).length = 5 := by decide
  have e2 : ("\n" : Str).length = 1 := by decide
  have e3 : (" " : Str).length = 1 := by decide
  rw [e3] at a
  have h5 := str_small (i := c) (by omega) (by omega)
  refine ⟨?_, by omega⟩
  unfold ruleX
  rw [len_app, len_app, len_app, len_app]
  omega
def sp_read_rule (K : PySem.W.Frag) : Sp := fun vs H Q _ => ∃ (r : List Int) (c : Int), vs = [.str (ruleX r c)] ∧ 2 ≤ c ∧ c ≤ 3 ∧ IsRule (n4 c) r ∧ RetP (TldV H r c) H Q
theorem spp_read_rule {K : PySem.W.Frag} {H : Hp} {r : List Int} {c : Int} (c0 : 2 ≤ c) (c1 : c ≤ 3) (hr : IsRule (n4 c) r) : SpP (sp_read_rule K) [.str (ruleX r c)] H (TldV H r c) :=
  fun H1 e Q q E => ⟨r, c, rfl, c0, c1, hr, fun v H2 e2 ⟨t, l, h1, h2, h3⟩ => q v H2 e2 ⟨t, l, h1, fresh_back e h2, h3⟩⟩
theorem head_in {c : Int} (c0 : 2 ≤ c) (c1 : c ≤ 3) : inV (.str (("rule " : Str) ++ (toString c : Str))) [.str ("rule 2" : Str), .str ("rule 3" : Str)] = true ∧ atI ((("rule " : Str) ++ (toString c : Str)).cps.toList) (-1) = some (48 + c.toNat) ∧ PySem.intText? (⟨#[48 + c.toNat]⟩ : Str) = some c ∧ 10 ∉ TL.tl (("rule " : Str) ++ (toString c : Str)) := by
  rcases (show c = 2 ∨ c = 3 by omega) with rfl | rfl <;> decide +kernel
theorem cal_read_rule {P : Program} {w : World} {K : PySem.W.Frag} {mg : Str → Option Value} {base : Heap} {f : Addr} {fd : FuncData} (Bt : Bl mg) (D : DefAt K mg "read_rule" s_read_rule ["text"] f fd) {C_BlockError C_NoBoard C_NoRule C_NotBack C_BadNote : Addr} (Cl : Cls K mg C_BlockError C_NoBoard C_NoRule C_NotBack C_BadNote) (C_lines_of : CalE P w K mg base CX0 1 "lines_of" ["text"] (sp_lines_of K)) (C_whole_of : CalE P w K mg base CX0 1 "whole_of" ["word"] (sp_whole_of K)) (C_looked : CalE P w K mg base CX0 1 "looked" ["rule", "colours"] (sp_looked K)) :
    CalE P w K mg base CX0 2 "read_rule" ["text"] (sp_read_rule K) := by
  obtain ⟨f_lines_of, fd_lines_of, G_lines_of, g_lines_of, k_lines_of, b_lines_of⟩ := C_lines_of.ex
  obtain ⟨f_whole_of, fd_whole_of, G_whole_of, g_whole_of, k_whole_of, b_whole_of⟩ := C_whole_of.ex
  obtain ⟨f_looked, fd_looked, G_looked, g_looked, k_looked, b_looked⟩ := C_looked.ex
  refine ⟨f, fd, D.F.ok sc_read_rule (fun vs H Q E h => ?_) (fun cdv A outer s H vs Q E hRm h => ?_), D.g, D.F.kp, D.b⟩
  · obtain ⟨r, c, rfl, _⟩ := h; rfl
  · obtain ⟨r, c, rfl, c0, c1, hr, q⟩ := h
    obtain ⟨hn, hn2, hn3⟩ := n4_int c0 c1
    have hx : ∀ x ∈ r, 0 ≤ x ∧ x < 81 := fun x hx => by have := hr.mem.mp hx; omega
    have hl : r.length ≤ 81 := by rw [hr.len]; omega
    obtain ⟨l1, l2⟩ := ruleX_len c0 c1 hl hx
    obtain ⟨k1, k2, k3, k4⟩ := head_in c0 c1
    have hne : numX r ≠ [] := fun z => by
      have : (numX r).length = r.length := List.length_map ..
      rw [z, hr.len] at this
      simp only [List.length_nil] at this
      omega
    have hz : (16777216 : Nat) ≤ sizeLine := by rw [sizeLine_eq]; exact Nat.le_refl _
    have hjoin : 10 ∉ TL.tl (Txt.join (" " : Str) (numX r)) := fun z => by
      rw [TL.join_eq] at z
      rcases mem_join z with z | ⟨p, hp, z⟩
      · revert z; decide
      · have := numX_mem hx hp z
        omega
    have hsp : Txt.split (Txt.join (" " : Str) (numX r)) (" " : Str) = numX r := TL.split_join (show TL.tl (" " : Str) = 32 :: [] by decide) (by decide +kernel) hne fun p hp z => by
      have := numX_mem hx hp z
      omega
    rw [ruleX_lines] at l1 ⊢
    refine ⟨_, (pss_cons (ps_set (i := 1) sc_read_rule.nd rfl (Or.inl rfl) (pe_call G_lines_of (hRm.mono (by decide)) (by rfl) g_lines_of k_lines_of b_lines_of .nil pass0 (pa_cons (pv 0) pa_nil)))
 (pss_cons (ps_if (PW.pt (pw_or (pt_cmpR op_ne (pe_callB (call_lenK (K := K) rfl) (by rfl) Bt.len_ (by decide +kernel) (pa_cons (pv 1) pa_nil)) pe_int (nomark _)) (pw_or1 (pt_cmpR (op_notInK (K := K) rfl) (pe_ix (ix_listK (K := K) rfl) (pv 1) pe_int (fun _ _ => rfl)) (pe_tup (pa_cons pe_str (pa_cons pe_str pa_nil))) (by rfl))))) (pss_one (ps_raise rfl takes0 (pmk_own PySem.F.excBase_ValueError Cl.BadNote.xP Cl.BadNote.gP Cl.BadNote.kP (raises_own Cl.BadNote.bP Cl.BadNote.tP) (by rfl)))) pss_nil)
 (pss_cons (ps_set (i := 2) sc_read_rule.nd rfl (Or.inl rfl) (pe_callTy call_int_str (by rfl) Bt.int_ (by decide +kernel) (pa_cons (pe_ix ix_str (pe_ix (ix_listK (K := K) rfl) (pv 1) pe_int (fun _ _ => rfl)) (pe_un un_neg pe_int) (fun _ _ => rfl)) pa_nil)))
 (pss_cons (ps_setLc (i := 3) (own := [("word", 4)]) (g := gName 4) (by rfl) sc_read_rule.nd rfl rfl (sw_true rfl rfl rfl (by decide +kernel)) (pi_listK (K := K) rfl (pe_split (pe_ix (ix_listK (K := K) rfl) (pv 1) pe_int (fun _ _ => rfl)) pe_str)) (blkOk_by (own := [("word", 4)]) (N := ["text", "lines", "colours", "rule", "word"]) (sc := defScope s_read_rule) (by decide +kernel)) (fun _ _ _ _ _ => pg_name (i := 4) sc_read_rule.nd rfl (Or.inl rfl)) (fun _ _ _ _ _ => pts_nil) (fun _ _ _ _ _ => (pe_call G_whole_of (hRm.mono (by decide)) (by rfl) g_whole_of k_whole_of b_whole_of .nil pass0 (pa_cons (pv 4) pa_nil))))
 (pss_cons (ps_try_thru0 (pss_one (ps_expr (pe_call G_looked (hRm.mono (by decide)) (by rfl) g_looked k_looked b_looked .nil pass0 (pa_cons (pv 3) (pa_cons (pv 2) pa_nil))))))
 (pss_one (ps_ret (pe_tup (pa_cons (pv 2) (pa_cons (pv 3) pa_nil)))))))))), Go.at ?_⟩
    refine go_asgL (el_call (ea_cons (ev_var rfl) ea_nil) (spl_lines_of (ps := [("rule " : Str) ++ (toString c : Str), Txt.join (" " : Str) (numX r)]) (fun p hp => ?_) (by show (2 : Nat) ≤ 100; decide) (by omega))) fun p H1 hp e1 h1 => ?_
    · simp only [List.mem_cons, List.not_mem_nil, or_false] at hp
      rcases hp with rfl | rfl
      · exact k4
      · exact hjoin
    have hp1 := sq_of (K := K) h1
    have i0 : atI ([("rule " : Str) ++ (toString c : Str), Txt.join (" " : Str) (numX r)].map V.str) 0 = some (.str (("rule " : Str) ++ (toString c : Str))) := rfl
    have i1 : atI ([("rule " : Str) ++ (toString c : Str), Txt.join (" " : Str) (numX r)].map V.str) 1 = some (.str (Txt.join (" " : Str) (numX r))) := rfl
    refine go_not (et_or (et_test (ev_op (ev_lenL (ev_var rfl) hp1) ev_c rv_neI)) (fun _ => et_test (ev_niU (xs := [.str ("rule 2" : Str), .str ("rule 3" : Str)]) (ev_ixL (ev_var rfl) ev_c hp1 i0) (eu_tup (ea_cons ev_c (ea_cons ev_c ea_nil)) (by show (2 : Nat) ≤ 100000; decide)) rfl rfl))) (by rw [k1]; simp) ?_
    have hrl : (("rule " : Str) ++ (toString c : Str)).length ≤ 10 := by
      have e1 : ("rule " : Str).length = 5 := by decide
      have h5 := str_small (i := c) (by omega) (by omega)
      rw [len_app]
      omega
    refine go_asg (ev_intS (ev_op (ev_ixL (ev_var rfl) ev_c hp1 i0) (ev_un ev_c ru_neg) (BT.rv_ixS (by omega) k2)) k3 (by show (1 : Nat) ≤ 640; decide)) ?_
    refine go_asgL (xs := r.map V.int) ?_ fun l H2 hl2 e2 h2 => ?_
    · have hlen : ((numX r).map V.str).length = r.length := by rw [List.length_map]; exact List.length_map ..
      refine el_is (el_mapNL (xs := (numX r).map V.str) (fun i => V.int (at0 r (i : Int))) (el_is ?_ (show (Txt.split (Txt.join (" " : Str) (numX r)) (" " : Str)).map V.str = (numX r).map V.str by rw [hsp])) (by omega) (fun _ => rfl) (fun i x H3 e3 hi => ?_)) (by rw [hlen, map_at0])
      · exact el_split (ev_ixL (ev_var rfl) ev_c hp1 i1) ev_c (by decide) (by omega)
      · have hir : i < r.length := by rw [← hlen]; exact (List.getElem?_eq_some_iff.mp hi).1
        unfold numX at hi
        rw [List.getElem?_map, List.getElem?_map, List.getElem?_eq_getElem hir] at hi
        have hi := Option.some.inj hi
        subst hi
        have hm := hx _ (List.getElem_mem hir)
        have : at0 r (i : Int) = r[i] := by
          unfold at0
          rw [List.getD_eq_getElem?_getD, Int.toNat_natCast, List.getElem?_eq_getElem hir]
          rfl
        rw [this]
        exact ev_call (ea_cons (ev_var rfl) ea_nil) (spv_whole_of (num_words hm.1 hm.2) (Nat.le_trans (str_small hm.1 hm.2) (by decide)))
    · refine go_drop (ev_call (ea_cons (ev_var rfl) (ea_cons (ev_var rfl) ea_nil)) (spv_looked (sq_of h2) c0 c1 hr)) ?_
      refine go_retU (eu_tup (ea_cons (ev_var rfl) (ea_cons (ev_var rfl) ea_nil)) (by show (2 : Nat) ≤ 100000; decide)) fun t H3 ht e3 h3 => ?_
      exact q _ H3 ((e1.trans e2).trans e3) ⟨t, l, rfl, fresh_back e1 hl2, h3, e3 _ _ h2⟩
/-! #### law -/
/-- the signs of a board's text -/
def rowT (r : List Int) : List Nat := r.map fun x => 48 + x.toNat
def rowsT (R : List (List Int)) : List Nat := R.flatMap fun r => rowT r ++ [10]
theorem rowsT_snoc (R : List (List Int)) (r : List Int) : rowsT (R ++ [r]) = rowsT R ++ (rowT r ++ [10]) := by unfold rowsT; rw [List.flatMap_append]; simp
theorem rowsT_len : ∀ (R : List (List Int)), (∀ r ∈ R, r.length ≤ 16) → (rowsT R).length ≤ R.length * 17
  | [], _ => by simp [rowsT]
  | r :: R, h => by
    have h1 := h r (by simp)
    have h2 := rowsT_len R fun z hz => h z (List.mem_cons_of_mem _ hz)
    show (rowT r ++ [10] ++ rowsT R).length ≤ _
    rw [List.length_append, List.length_append]
    have : (rowT r).length = r.length := List.length_map ..
    simp only [List.length_cons, List.length_nil]
    omega
theorem join0_tl : ∀ ps : List Str, TL.tl (Str.join ("" : Str) ps) = (ps.map TL.tl).flatten
  | [] => rfl
  | [p] => by simp [Str.join]
  | p :: q :: r => by
    have ih := join0_tl (q :: r)
    show TL.tl (p ++ ("" : Str) ++ Str.join ("" : Str) (q :: r)) = TL.tl p ++ ((q :: r).map TL.tl).flatten
    rw [app_empty, TL.tl_append, ih]
theorem textB_tl (R : List (List Int)) : TL.tl (textB R) = rowsT R := by
  unfold textB
  rw [← ends_join, join0_tl, List.map_map, List.map_map]
  unfold rowsT
  rw [List.flatMap_def]
  congr 1
  apply List.map_congr_left
  intro r _
  show TL.tl (sgnX r ++ ("\n" : Str)) = _
  rw [TL.tl_append, nl_tl]
  rfl
theorem dig_str : ∀ d ∈ [(0 : Int), 1, 2], TL.tl (toString d : Str) = [48 + d.toNat] := by decide +kernel
theorem rowX_sgn {r : List Int} (h : ∀ x ∈ r, 0 ≤ x ∧ x < 3) : rowX r = sgnX r := by
  apply TL.ext_tl
  unfold rowX
  rw [TL.join_eq, join0_tl, List.map_map]
  show _ = rowT r
  induction r with
  | nil => rfl
  | cons x r ih =>
    have ih := ih fun y hy => h y (List.mem_cons_of_mem _ hy)
    have hx := h x (by simp)
    rw [List.map_cons, List.flatten_cons, ih]
    show TL.tl (toString x : Str) ++ rowT r = _
    rw [dig_str x (by simp; omega)]
    rfl
theorem boardX_text {h w : Nat} {c : Int} {f : Int → Int → Int} (hf : Bnd h w c f) (hc : c ≤ 3) : boardX (mk h w f) = textB (mk h w f) := by
  unfold boardX textB
  rw [TL.join_eq, ← ends_join]
  congr 1
  unfold boardXs
  rw [List.map_map]
  apply List.map_congr_left
  intro r hr
  unfold mk at hr
  obtain ⟨i, hi, rfl⟩ := List.mem_map.mp hr
  show rowX _ ++ ("\n" : Str) = sgnX _ ++ ("\n" : Str)
  rw [rowX_sgn (row_in hf hc (List.mem_range.mp hi))]
theorem spv_board_shown {K : PySem.W.Frag} {H : Hp} {v : V} {hh ww : Nat} {f : Int → Int → Int} {c : Int} (hB : BdV K (mk (2 * hh) (2 * ww) f) v H) (h2 : hh ≤ 8) (w2 : ww ≤ 8) (hf : Bnd (2 * hh) (2 * ww) c f) (c1 : c ≤ 3) : SpV (sp_board_shown K) [v] H (.str (textB (mk (2 * hh) (2 * ww) f))) := by
  rw [← boardX_text hf c1]
  exact fun H1 e Q q E => ⟨v, hh, ww, f, c, rfl, hB.up e, h2, w2, hf, c1, q⟩
theorem ev_callP {σ : L2.St} {H : Hp} {sp : Sp} {dvs : List V} {E : XK} {ta : TA} {z : V} {R : List V → Hp → Prop} (h : EvAP ta σ H R) (hs : ∀ vs H1, Ex H H1 → R vs H1 → SpV sp (vs ++ dvs) H1 z) : Ev (tCall sp dvs E ta) σ H z :=
  fun H1 e Q q => h H1 e _ fun vs H2 e2 p => hs vs H2 (e.trans e2) p H2 (Ex.refl H2) Q (fun H3 e3 => q H3 (e2.trans e3)) E
theorem dig_ix : ∀ d ∈ [(0 : Int), 1, 2], atI ("012" : Str).cps.toList d = some (48 + d.toNat) := by decide +kernel
theorem take_snoc {α : Type} {l : List α} {i : Nat} {x : α} (h : l[i]? = some x) : l.take (i + 1) = l.take i ++ [x] := by
  rw [List.take_succ, h]; rfl
set_option maxHeartbeats 1000000 in
theorem ok_law {P : Program} {w : World} {K : PySem.W.Frag} {mg : Str → Option Value} {base : Heap} {f : Addr} {fd : FuncData} (Bt : Bl mg) (D : DefAt K mg "law" s_law ["script"] f fd) (C__law_cell_at : CalE P w K mg base CX0 1 "_law_cell_at" ["script", "k"] (sp__law_cell_at K)) (C__law_rule_by : CalE P w K mg base CX0 2 "_law_rule_by" ["cell", "colours"] (sp__law_rule_by K)) (C__law_size : CalE P w K mg base CX0 1 "_law_size" ["cell"] (sp__law_size K)) (C__law_board_by : CalE P w K mg base CX0 1 "_law_board_by" ["cell", "width", "height", "colours"] (sp__law_board_by K)) (C_board_shown : CalE P w K mg base CX0 1 "board_shown" ["board"] (sp_board_shown K)) (C_read_board : CalE P w K mg base CX0 3 "read_board" ["text", "colours"] (sp_read_board K)) (C__law_is_board : CalE P w K mg base CX0 2 "_law_is_board" ["found", "due"] (sp__law_is_board K)) (C_rule_shown : CalE P w K mg base CX0 1 "rule_shown" ["rule", "colours"] (sp_rule_shown K)) (C_read_rule : CalE P w K mg base CX0 2 "read_rule" ["text"] (sp_read_rule K)) (C__law_whole : CalE P w K mg base CX0 1 "_law_whole" ["found"] (sp__law_whole K)) :
    FnOk P w K mg base CX0 4 f fd ["script"] (sp_law K) := by
  obtain ⟨f__law_cell_at, fd__law_cell_at, G__law_cell_at, g__law_cell_at, k__law_cell_at, b__law_cell_at⟩ := C__law_cell_at.ex
  obtain ⟨f__law_rule_by, fd__law_rule_by, G__law_rule_by, g__law_rule_by, k__law_rule_by, b__law_rule_by⟩ := C__law_rule_by.ex
  obtain ⟨f__law_size, fd__law_size, G__law_size, g__law_size, k__law_size, b__law_size⟩ := C__law_size.ex
  obtain ⟨f__law_board_by, fd__law_board_by, G__law_board_by, g__law_board_by, k__law_board_by, b__law_board_by⟩ := C__law_board_by.ex
  obtain ⟨f_board_shown, fd_board_shown, G_board_shown, g_board_shown, k_board_shown, b_board_shown⟩ := C_board_shown.ex
  obtain ⟨f_read_board, fd_read_board, G_read_board, g_read_board, k_read_board, b_read_board⟩ := C_read_board.ex
  obtain ⟨f__law_is_board, fd__law_is_board, G__law_is_board, g__law_is_board, k__law_is_board, b__law_is_board⟩ := C__law_is_board.ex
  obtain ⟨f_rule_shown, fd_rule_shown, G_rule_shown, g_rule_shown, k_rule_shown, b_rule_shown⟩ := C_rule_shown.ex
  obtain ⟨f_read_rule, fd_read_rule, G_read_rule, g_read_rule, k_read_rule, b_read_rule⟩ := C_read_rule.ex
  obtain ⟨f__law_whole, fd__law_whole, G__law_whole, g__law_whole, k__law_whole, b__law_whole⟩ := C__law_whole.ex
  refine D.F.ok sc_law (fun vs H Q E h => ?_) (fun cdv A outer s H vs Q E hRm h => ?_)
  · obtain ⟨a, ns, rfl, _⟩ := h; rfl
  · obtain ⟨a, ns, rfl, hS, hlen, q⟩ := h
    refine ⟨_, (pss_cons (ps_set (i := 1) sc_law.nd rfl (Or.inl rfl) (pe_op op_add pe_int (pe_op op_mod (pe_call G__law_cell_at (hRm.mono (by decide)) (by rfl) g__law_cell_at k__law_cell_at b__law_cell_at .nil pass0 (pa_cons (pv 0) (pa_cons pe_int pa_nil))) pe_int)))
 (pss_cons (ps_set (i := 2) sc_law.nd rfl (Or.inl rfl) (pe_call G__law_rule_by (hRm.mono (by decide)) (by rfl) g__law_rule_by k__law_rule_by b__law_rule_by .nil pass0 (pa_cons (pe_call G__law_cell_at (hRm.mono (by decide)) (by rfl) g__law_cell_at k__law_cell_at b__law_cell_at .nil pass0 (pa_cons (pv 0) (pa_cons pe_int pa_nil))) (pa_cons (pv 1) pa_nil))))
 (pss_cons (ps_set (i := 3) sc_law.nd rfl (Or.inl rfl) (pe_call G__law_size (hRm.mono (by decide)) (by rfl) g__law_size k__law_size b__law_size .nil pass0 (pa_cons (pe_call G__law_cell_at (hRm.mono (by decide)) (by rfl) g__law_cell_at k__law_cell_at b__law_cell_at .nil pass0 (pa_cons (pv 0) (pa_cons pe_int pa_nil))) pa_nil)))
 (pss_cons (ps_set (i := 4) sc_law.nd rfl (Or.inl rfl) (pe_call G__law_size (hRm.mono (by decide)) (by rfl) g__law_size k__law_size b__law_size .nil pass0 (pa_cons (pe_call G__law_cell_at (hRm.mono (by decide)) (by rfl) g__law_cell_at k__law_cell_at b__law_cell_at .nil pass0 (pa_cons (pv 0) (pa_cons pe_int pa_nil))) pa_nil)))
 (pss_cons (ps_set (i := 5) sc_law.nd rfl (Or.inl rfl) (pe_call G__law_board_by (hRm.mono (by decide)) (by rfl) g__law_board_by k__law_board_by b__law_board_by .nil pass0 (pa_cons (pe_call G__law_cell_at (hRm.mono (by decide)) (by rfl) g__law_cell_at k__law_cell_at b__law_cell_at .nil pass0 (pa_cons (pv 0) (pa_cons pe_int pa_nil))) (pa_cons (pv 3) (pa_cons (pv 4) (pa_cons (pv 1) pa_nil))))))
 (pss_cons (ps_set (i := 6) sc_law.nd rfl (Or.inl rfl) pe_str)
 (pss_cons (ps_for PassesOwn.never rfl (pi_tupK (K := K) rfl (pv 5)) (pg_name (i := 7) sc_law.nd rfl (Or.inl rfl))
 (pss_cons (ps_for PassesOwn.never rfl (pi_tupK (K := K) rfl (pv 7)) (pg_name (i := 8) sc_law.nd rfl (Or.inl rfl))
 (pss_one (ps_set (i := 6) sc_law.nd rfl (Or.inl rfl) (pe_op op_add_str (pv 6) (pe_ix ix_str pe_str (pv 8) (fun _ _ => rfl))))))
 (pss_one (ps_set (i := 6) sc_law.nd rfl (Or.inl rfl) (pe_op op_add_str (pv 6) pe_str)))))
 (pss_cons (ps_set (i := 9) sc_law.nd rfl (Or.inl rfl) (pe_call G_board_shown (hRm.mono (by decide)) (by rfl) g_board_shown k_board_shown b_board_shown .nil pass0 (pa_cons (pv 5) pa_nil)))
 (pss_cons (ps_if (PW.pt (pw_or (pt_not (pt_val (pe_callB (call_isiK1 (K := K) rfl) (by rfl) Bt.isinstance_ (by decide +kernel) (pa_cons (pv 9) (pa_cons (pe_bltn (v := .ty "str") (by rfl) Bt.str_ (by decide +kernel) rfl) pa_nil))))) (pw_or (pt_cmpR op_ne (pv 9) (pv 6) (nomark _)) (pw_or1 (pt_not (pt_val (pe_call G__law_is_board (hRm.mono (by decide)) (by rfl) g__law_is_board k__law_is_board b__law_is_board .nil pass0 (pa_cons (pe_call G_read_board (hRm.mono (by decide)) (by rfl) g_read_board k_read_board b_read_board .nil pass0 (pa_cons (pv 6) (pa_cons (pv 1) pa_nil))) (pa_cons (pv 5) pa_nil))))))))) (pss_one (ps_ret pe_bl)) pss_nil)
 (pss_cons (ps_set (i := 6) sc_law.nd rfl (Or.inl rfl) (pe_op op_add_str (pe_op op_add_str (pe_op op_add_str (pe_op op_add_str pe_str (pe_callTy call_str_int (by rfl) Bt.str_ (by decide +kernel) (pa_cons (pv 1) pa_nil))) pe_str) (pe_joinK (K := K) rfl pe_str (pe_lc (own := [("number", 12)]) (g := gName 12) (by rfl) sc_law.nd (pi_listK (K := K) rfl (pv 2)) (blkOk_by (own := [("number", 12)]) (N := ["script", "colours", "rule", "width", "height", "board", "text", "row", "colour", "found", "turn", "told", "number"]) (sc := defScope s_law) (by decide +kernel)) (fun _ _ _ _ _ => pg_name (i := 12) sc_law.nd rfl (Or.inl rfl)) (fun _ _ _ _ _ => pts_nil) (fun _ _ _ _ _ => (pe_callTy call_str_int (by rfl) Bt.str_ (by decide +kernel) (pa_cons (pv 12) pa_nil)))))) pe_str))
 (pss_cons (ps_set (i := 9) sc_law.nd rfl (Or.inl rfl) (pe_call G_rule_shown (hRm.mono (by decide)) (by rfl) g_rule_shown k_rule_shown b_rule_shown .nil pass0 (pa_cons (pe_callTy (call_listK (K := K) rfl) (by rfl) Bt.list_ (by decide +kernel) (pa_cons (pv 2) pa_nil)) (pa_cons (pv 1) pa_nil))))
 (pss_cons (ps_if (PW.pt (pw_or (pt_not (pt_val (pe_callB (call_isiK1 (K := K) rfl) (by rfl) Bt.isinstance_ (by decide +kernel) (pa_cons (pv 9) (pa_cons (pe_bltn (v := .ty "str") (by rfl) Bt.str_ (by decide +kernel) rfl) pa_nil))))) (pw_or1 (pt_cmpR op_ne (pv 9) (pv 6) (nomark _))))) (pss_one (ps_ret pe_bl)) pss_nil)
 (pss_cons (ps_for PassesOwn.never rfl (pi_range1 (by rfl) Bt.range_ (pa_cons pe_int pa_nil)) (pg_name (i := 10) sc_law.nd rfl (Or.inl rfl))
 (pss_cons (ps_set (i := 11) sc_law.nd rfl (Or.inl rfl) (pe_call G_read_rule (hRm.mono (by decide)) (by rfl) g_read_rule k_read_rule b_read_rule .nil pass0 (pa_cons (pv 6) pa_nil)))
 (pss_cons (ps_if (PW.pt (pw_or (pt_not (pt_val (pe_callB (call_isiK1 (K := K) rfl) (by rfl) Bt.isinstance_ (by decide +kernel) (pa_cons (pv 11) (pa_cons (pe_bltn (v := .ty "tuple") (by rfl) Bt.tuple_ (by decide +kernel) rfl) pa_nil))))) (pw_or (pt_cmpR op_ne (pe_callB (call_lenK (K := K) rfl) (by rfl) Bt.len_ (by decide +kernel) (pa_cons (pv 11) pa_nil)) pe_int (nomark _)) (pw_or (pt_not (pt_val (pe_call G__law_whole (hRm.mono (by decide)) (by rfl) g__law_whole k__law_whole b__law_whole .nil pass0 (pa_cons (pe_ix (ix_tupK (K := K) rfl) (pv 11) pe_int (fun _ _ => rfl)) pa_nil)))) (pw_or1 (pt_cmpR op_ne (pe_ix (ix_tupK (K := K) rfl) (pv 11) pe_int (fun _ _ => rfl)) (pv 1) (nomark _))))))) (pss_one (ps_ret pe_bl)) pss_nil)
 (pss_cons (ps_if (PW.pt (pw_or (pt_not (pt_val (pe_callB (call_isiK1 (K := K) rfl) (by rfl) Bt.isinstance_ (by decide +kernel) (pa_cons (pe_ix (ix_tupK (K := K) rfl) (pv 11) pe_int (fun _ _ => rfl)) (pa_cons (pe_bltn (v := .ty "list") (by rfl) Bt.list_ (by decide +kernel) rfl) pa_nil))))) (pw_or1 (pt_cmpR (op_neDK (K := K) rfl hRm.units) (pe_ix (ix_tupK (K := K) rfl) (pv 11) pe_int (fun _ _ => rfl)) (pv 2) (nomark _))))) (pss_one (ps_ret pe_bl)) pss_nil)
 (pss_one (ps_expr (pe_bm0 PySem.F.plainAttrs_list PySem.F.slot_list_clear PySem.F.type_list_clear mt_clear (pe_ix (ix_tupK (K := K) rfl) (pv 11) pe_int (fun _ _ => rfl)))))))))
 (pss_one (ps_ret pe_bl))))))))))))))), Go.at ?_⟩
    obtain ⟨c0, c1⟩ := col_of (at0 ns 0)
    refine go_asg (v := .int (2 + at0 ns 0 % 2)) (by walk_at "ev") ?_
    generalize 2 + at0 ns 0 % 2 = c at *
    obtain ⟨hn, hn2, hn3⟩ := n4_int c0 c1
    refine go_asgR (by walk_at "ea") (spr__law_rule_by (cell := at0 ns 1) c0 c1) fun r b H1 hr hb e1 h1 => ?_
    have hS1 := ex_l e1 hS
    have hR : SqL K H1 b (r.map V.int) := sq_of h1
    refine go_asgP (ep_call (by walk_at "ea") (spp__law_size (cell := at0 ns 2))) fun v2 H2 e2 hp2 => ?_
    obtain ⟨ww, rfl, w1, w2⟩ := hp2
    have hS2 := ex_l e2 hS1
    refine go_asgP (ep_call (by walk_at "ea") (spp__law_size (cell := at0 ns 3))) fun v3 H3 e3 hp3 => ?_
    obtain ⟨hh, rfl, h1', h2'⟩ := hp3
    have hS3 := ex_l e3 hS2
    have ch : ((2 * hh : Nat) : Int) = 2 * (hh : Int) := by omega
    have cw : ((2 * ww : Nat) : Int) = 2 * (ww : Int) := by omega
    refine go_asgP (ep_call (vs := [.int (at0 ns 4), .int ((2 * ww : Nat) : Int), .int ((2 * hh : Nat) : Int), .int c]) (ea_cons (by walk_at "ev") (ea_cons (ev_is (v := .int (2 * (ww : Int))) (ev_var rfl) (by rw [cw])) (ea_cons (ev_is (v := .int (2 * (hh : Int))) (ev_var rfl) (by rw [ch])) (ea_cons (ev_var rfl) ea_nil)))) (spp__law_board_by (cell := at0 ns 4) (w := 2 * ww) (h := 2 * hh) (by omega) (by omega) c0 c1)) fun v H4 e4 hp4 => ?_
    obtain ⟨f, hf, hB⟩ := hp4
    have hR4 := ex_l ((e2.trans e3).trans e4) hR
    clear hS hS1 hS2 hS3 hR h1 hb
    have hx : ∀ x ∈ r, 0 ≤ x ∧ x < 81 := fun x hx => by have := hr.mem.mp hx; omega
    have hrl : r.length ≤ 81 := by rw [hr.len]; omega
    have hz : (16777216 : Nat) ≤ sizeLine := by rw [sizeLine_eq]; exact Nat.le_refl _
    have rows16 : ∀ i, (rowsT ((mk (2 * hh) (2 * ww) f).take i)).length ≤ 16 * 17 := fun i => by
      have := rowsT_len ((mk (2 * hh) (2 * ww) f).take i) fun r hr => by
        have hr := List.mem_of_mem_take hr
        unfold mk at hr
        obtain ⟨j, _, rfl⟩ := List.mem_map.mp hr
        rw [len_rowOf]
        omega
      refine Nat.le_trans this (Nat.mul_le_mul_right _ ?_)
      rw [List.length_take, len_mk]
      omega
    refine go_asg ev_c ?_
    obtain ⟨p, us, rfl, hs, hul, hrows⟩ := id hB
    rw [len_mk] at hul
    refine go_forT (a := p) (ev_var rfl) hs (fun i σ' H' => ∃ s y7 y8, σ' = [some (.ref a), some (.int c), some (.ref b), some (.int (2 * (ww : Int))), some (.int (2 * (hh : Int))), some (.ref p), some (.str s), y7, y8, none, none, none, none] ∧ Ex H4 H' ∧ TL.tl s = rowsT ((mk (2 * hh) (2 * ww) f).take i))
      (fun H5 e5 => ⟨_, _, _, rfl, e5, rfl⟩) (fun i σ' H' _ ⟨_, _, _, _, e, _⟩ => ex_t e hs) (fun i x σ' H5 hi ⟨s, y7, y8, hσ, e5, hs5⟩ => ?_) (fun σ' H5 ⟨s, y7, y8, hσ, e5, hs5⟩ => ?_)
    · subst hσ
      have hi2 : i < 2 * hh := by rw [← hul]; exact (List.getElem?_eq_some_iff.mp hi).1
      obtain ⟨ra, rfl, hra⟩ := hrows i x _ hi (mk_get hi2)
      have hra5 := ex_t e5 hra
      have hdig := row_in hf c1 hi2
      have hlw : (rowOf (2 * ww) (f (i : Int))).length = 2 * ww := len_rowOf _ _
      have htk := rows16 i
      generalize hrr : rowOf (2 * ww) (f (i : Int)) = rr at *
      refine go_forT (a := ra) (ev_var rfl) hra5 (fun j σ' H' => ∃ s y8, σ' = [some (.ref a), some (.int c), some (.ref b), some (.int (2 * (ww : Int))), some (.int (2 * (hh : Int))), some (.ref p), some (.str s), some (.ref ra), y8, none, none, none, none] ∧ Ex H5 H' ∧ TL.tl s = rowsT ((mk (2 * hh) (2 * ww) f).take i) ++ rowT (rr.take j))
        (fun H6 e6 => ⟨_, _, rfl, e6, by rw [hs5]; simp [rowT]⟩) (fun j σ' H' _ ⟨_, _, _, e, _⟩ => ex_t e hra5) (fun j x σ' H6 hj ⟨s, y8, hσ, e6, hs6⟩ => ?_) (fun σ' H6 ⟨s, y8, hσ, e6, hs6⟩ => ?_)
      · subst hσ
        obtain ⟨rfl, hjl⟩ := at0_of hj
        have hd := hdig _ (at0_mem (r := rr) (i := (j : Int)) (by omega) (by omega))
        have hsl : s.length ≤ 1000 := by
          rw [TL.len_tl, hs6, List.length_append]
          have : (rowT (rr.take j)).length ≤ 16 := by unfold rowT; rw [List.length_map, List.length_take]; omega
          omega
        refine gl_asg (ev_op (ev_var rfl) (ev_op ev_c (ev_var rfl) (BT.rv_ixS (Nat.le_trans (show ("012" : Str).length ≤ 100 by decide) (by omega)) (dig_ix _ (by simp; omega)))) (rv_addS (Nat.le_trans (Nat.add_le_add hsl (Nat.le_refl 1)) (by omega)))) fun H7 e7 => ⟨_, _, rfl, e6.trans e7, ?_⟩
        have hg : rr[j]? = some (at0 rr (j : Int)) := by
          unfold at0
          rw [List.getD_eq_getElem?_getD, Int.toNat_natCast, List.getElem?_eq_getElem hjl]
          rfl
        rw [TL.tl_append, hs6, take_snoc hg]
        unfold rowT
        rw [List.map_append, List.append_assoc]
        rfl
      · subst hσ
        rw [List.length_map, List.take_length] at hs6
        have hsl : s.length ≤ 1000 := by
          rw [TL.len_tl, hs6, List.length_append]
          have : (rowT rr).length ≤ 16 := by unfold rowT; rw [List.length_map]; omega
          omega
        refine gl_asg (ev_op (ev_var rfl) ev_c (rv_addS (Nat.le_trans (Nat.add_le_add hsl (show ("\n" : Str).length ≤ 1 by decide)) (by omega)))) fun H7 e7 => ⟨_, _, _, rfl, (e5.trans e6).trans e7, ?_⟩
        rw [TL.tl_append, hs6, take_snoc (mk_get hi2), rowsT_snoc, hrr, nl_tl, List.append_assoc]
    · subst hσ
      rw [hul, List.take_of_length_le (by rw [len_mk]; exact Nat.le_refl _), ← textB_tl] at hs5
      have hs5 := TL.ext_tl hs5
      subst hs5
      have hB5 := hB.up e5
      have hR5 := ex_l e5 hR4
      clear hB hR4 hs hrows
      refine go_asg (ev_call (ea_cons (ev_var rfl) ea_nil) (spv_board_shown hB5 h2' w2 hf c1)) ?_
      refine go_not (et_or (et_not (et_B (ev_isiS (ev_var rfl)))) (fun _ => et_or (et_test (ev_op (ev_var rfl) (ev_var rfl) rv_neS)) (fun _ => et_not (et_B (ev_isP (ep_call (ea_cons (ev_var rfl) (ea_cons (ev_var rfl) ea_nil)) (spp_read_board h1' h2' w1 w2 c1 hf)) (ev_var rfl) hB5 (by omega) (by omega)))))) (by simp) ?_
      refine go_asg (ev_ruleX (ev_var rfl) (el_is (el_mapL (K := K) (fun x => V.str (toString x)) (ev_var rfl) hR5 (by omega) (fun _ => rfl) (fun x hxm => ev_strI (ev_var rfl) (log_small (hx x hxm).1 (hx x hxm).2))) (by unfold numX; rw [List.map_map]; rfl)) c0 c1 hrl hx) ?_
      refine go_asg (v := .str (ruleX r c)) (ev_callP (R := fun vs H => ∃ v, vs = [v, .int c] ∧ LsV K r v H) (eap_cons (P := LsV K r) (R := fun vs _ => vs = [.int c]) (ls_mono r) (ep_L (el_list (ev_var rfl) hR5) fun p H6 _ h6 => ⟨p, rfl, sq_of h6⟩) (eap_of (ea_cons (ev_var rfl) ea_nil) fun _ _ => rfl) (fun v vs H6 _ hv hvs => ⟨v, by rw [hvs], hv⟩))
        (fun vs H6 e6 ⟨v, hvs, l, hv, hl⟩ => by
          rw [hvs, hv]
          exact fun H7 e7 Q q E => ⟨l, r, c, rfl, ex_l e7 hl, c0, c1, hrl, hx, q⟩)) ?_
      refine go_not (et_or (et_not (et_B (ev_isiS (ev_var rfl)))) (fun _ => et_test (ev_op (ev_var rfl) (ev_var rfl) rv_neS))) (by simp) ?_
      refine go_forR1 (n := 2) (ea_cons ev_c ea_nil) (by decide) (fun i σ' H' => ∃ y10 y11, σ' = [some (.ref a), some (.int c), some (.ref b), some (.int (2 * (ww : Int))), some (.int (2 * (hh : Int))), some (.ref p), some (.str (ruleX r c)), y7, y8, some (.str (ruleX r c)), y10, y11, none] ∧ Ex H5 H')
        (fun H6 e6 => ⟨_, _, rfl, e6⟩) (fun i σ' H6 hi ⟨y10, y11, hσ, e6⟩ => ?_) (fun σ' H6 ⟨y10, y11, hσ, e6⟩ => ?_)
      · subst hσ
        have hR6 := ex_l e6 hR5
        refine go_asgP (ep_call (ea_cons (ev_var rfl) ea_nil) (spp_read_rule c0 c1 hr)) fun v H7 e7 hv => ?_
        obtain ⟨t, l, rfl, hl, ht, hl7⟩ := hv
        have ht7 := st_of (K := K) ht
        have hR7 := ex_l e7 hR6
        have i0 : atI [V.int c, V.ref l] 0 = some (.int c) := rfl
        have i1 : atI [V.int c, V.ref l] 1 = some (.ref l) := rfl
        refine go_not (et_or (et_not (et_B (ev_isiT (ev_var rfl) ht7))) (fun _ => et_or (et_test (ev_op (ev_lenT (ev_var rfl) ht7) ev_c rv_neI)) (fun _ => et_or (et_not (et_B (ev_call (ea_cons (ev_ixT (ev_var rfl) ev_c ht7 i0) ea_nil) spv__law_whole))) (fun _ => et_test (ev_op (ev_ixT (ev_var rfl) ev_c ht7 i0) (ev_var rfl) rv_neI))))) (by simp) ?_
        refine go_not (et_or (et_not (et_B (ev_isiL (ev_ixT (ev_var rfl) ev_c ht7 i1) (sq_of hl7)))) (fun _ => et_test (ev_op (ev_ixT (ev_var rfl) ev_c ht7 i1) (ev_var rfl) (rv_neL (sq_of hl7) hR7)))) (by simp) ?_
        exact gl_clear hl7 (ev_ixT (ev_var rfl) ev_c ht7 i1) fun H8 e8 => fun H9 e9 => ⟨_, _, rfl, (((e6.trans e7).trans e8).mut (fresh_back e6 hl)).trans e9⟩
      · subst hσ
        exact go_ret ev_c fun H7 _ => q H7
end BT
/-! ### what the top has written -/
namespace BT
open PySem PySem.Spec PyProof.Rows L2 Evl
theorem all_mk {l : PySem.W.OpenLaw} {w : World} {K : PySem.W.Frag} {h : Heap} {mg : Str → Option Value} {fa f1 f2 f3 f4 f5 f6 f7 f8 f9 f10 f11 f12 f13 f14 f15 f16 f17 f18 C_BlockError C_NoBoard C_NoRule C_NotBack C_BadNote : Addr} (X : K.In h) (G : h.Ns mainGlobals mg) (hfa : mg "law" = some (.ref fa))
    {od1 an1 od2 an2 od3 an3 od4 an4 od5 an5 od6 an6 od7 an7 od8 an8 od9 an9 od10 an10 od11 an11 od12 an12 od13 an13 od14 an14 od15 an15 od16 an16 od17 an17 od18 an18 : Option Addr} {sl1 sl2 sl3 sl4 sl5 sl6 sl7 sl8 sl9 sl10 sl11 sl12 sl13 sl14 sl15 sl16 sl17 sl18 : Array (Option Value)} {oc1 kV1 dc1 pm1 cd1 ct1 oc2 kV2 dc2 pm2 cd2 ct2 oc3 kV3 dc3 pm3 cd3 ct3 oc4 kV4 dc4 pm4 cd4 ct4 oc5 kV5 dc5 pm5 cd5 ct5 oc6 kV6 dc6 pm6 cd6 ct6 oc7 kV7 dc7 pm7 cd7 ct7 oc8 kV8 dc8 pm8 cd8 ct8 oc9 kV9 dc9 pm9 cd9 ct9 oc10 kV10 dc10 pm10 cd10 ct10 oc11 kV11 dc11 pm11 cd11 ct11 oc12 kV12 dc12 pm12 cd12 ct12 oc13 kV13 dc13 pm13 cd13 ct13 oc14 kV14 dc14 pm14 cd14 ct14 oc15 kV15 dc15 pm15 cd15 ct15 oc16 kV16 dc16 pm16 cd16 ct16 oc17 kV17 dc17 pm17 cd17 ct17 oc18 kV18 dc18 pm18 cd18 ct18 : Value}
    (a1 : PySem.W.nsIn K mainGlobals "looked" = some (some (.ref f1))) (l1 : K.lookup f1 = some ⟨oc1, od1, .func (PySem.W.fnOf "looked" "looked" (defArgs s_looked) (defBody s_looked) (defScope s_looked) .none kV1 dc1 pm1 an1 cd1 ct1), sl1⟩) (c1 : PySem.W.codeIn K cd1 "looked" = true) (k1 : PySem.W.keepIn K (.ref f1) = true)
    (a2 : PySem.W.nsIn K mainGlobals "is_size" = some (some (.ref f2))) (l2 : K.lookup f2 = some ⟨oc2, od2, .func (PySem.W.fnOf "is_size" "is_size" (defArgs s_is_size) (defBody s_is_size) (defScope s_is_size) .none kV2 dc2 pm2 an2 cd2 ct2), sl2⟩) (c2 : PySem.W.codeIn K cd2 "is_size" = true) (k2 : PySem.W.keepIn K (.ref f2) = true)
    (a3 : PySem.W.nsIn K mainGlobals "looked_board" = some (some (.ref f3))) (l3 : K.lookup f3 = some ⟨oc3, od3, .func (PySem.W.fnOf "looked_board" "looked_board" (defArgs s_looked_board) (defBody s_looked_board) (defScope s_looked_board) .none kV3 dc3 pm3 an3 cd3 ct3), sl3⟩) (c3 : PySem.W.codeIn K cd3 "looked_board" = true) (k3 : PySem.W.keepIn K (.ref f3) = true)
    (a4 : PySem.W.nsIn K mainGlobals "board_shown" = some (some (.ref f4))) (l4 : K.lookup f4 = some ⟨oc4, od4, .func (PySem.W.fnOf "board_shown" "board_shown" (defArgs s_board_shown) (defBody s_board_shown) (defScope s_board_shown) .none kV4 dc4 pm4 an4 cd4 ct4), sl4⟩) (c4 : PySem.W.codeIn K cd4 "board_shown" = true) (k4 : PySem.W.keepIn K (.ref f4) = true)
    (a5 : PySem.W.nsIn K mainGlobals "rule_shown" = some (some (.ref f5))) (l5 : K.lookup f5 = some ⟨oc5, od5, .func (PySem.W.fnOf "rule_shown" "rule_shown" (defArgs s_rule_shown) (defBody s_rule_shown) (defScope s_rule_shown) .none kV5 dc5 pm5 an5 cd5 ct5), sl5⟩) (c5 : PySem.W.codeIn K cd5 "rule_shown" = true) (k5 : PySem.W.keepIn K (.ref f5) = true)
    (a6 : PySem.W.nsIn K mainGlobals "lines_of" = some (some (.ref f6))) (l6 : K.lookup f6 = some ⟨oc6, od6, .func (PySem.W.fnOf "lines_of" "lines_of" (defArgs s_lines_of) (defBody s_lines_of) (defScope s_lines_of) .none kV6 dc6 pm6 an6 cd6 ct6), sl6⟩) (c6 : PySem.W.codeIn K cd6 "lines_of" = true) (k6 : PySem.W.keepIn K (.ref f6) = true)
    (a7 : PySem.W.nsIn K mainGlobals "row_of" = some (some (.ref f7))) (l7 : K.lookup f7 = some ⟨oc7, od7, .func (PySem.W.fnOf "row_of" "row_of" (defArgs s_row_of) (defBody s_row_of) (defScope s_row_of) .none kV7 dc7 pm7 an7 cd7 ct7), sl7⟩) (c7 : PySem.W.codeIn K cd7 "row_of" = true) (k7 : PySem.W.keepIn K (.ref f7) = true)
    (a8 : PySem.W.nsIn K mainGlobals "read_board" = some (some (.ref f8))) (l8 : K.lookup f8 = some ⟨oc8, od8, .func (PySem.W.fnOf "read_board" "read_board" (defArgs s_read_board) (defBody s_read_board) (defScope s_read_board) .none kV8 dc8 pm8 an8 cd8 ct8), sl8⟩) (c8 : PySem.W.codeIn K cd8 "read_board" = true) (k8 : PySem.W.keepIn K (.ref f8) = true)
    (a9 : PySem.W.nsIn K mainGlobals "whole_of" = some (some (.ref f9))) (l9 : K.lookup f9 = some ⟨oc9, od9, .func (PySem.W.fnOf "whole_of" "whole_of" (defArgs s_whole_of) (defBody s_whole_of) (defScope s_whole_of) .none kV9 dc9 pm9 an9 cd9 ct9), sl9⟩) (c9 : PySem.W.codeIn K cd9 "whole_of" = true) (k9 : PySem.W.keepIn K (.ref f9) = true)
    (a10 : PySem.W.nsIn K mainGlobals "read_rule" = some (some (.ref f10))) (l10 : K.lookup f10 = some ⟨oc10, od10, .func (PySem.W.fnOf "read_rule" "read_rule" (defArgs s_read_rule) (defBody s_read_rule) (defScope s_read_rule) .none kV10 dc10 pm10 an10 cd10 ct10), sl10⟩) (c10 : PySem.W.codeIn K cd10 "read_rule" = true) (k10 : PySem.W.keepIn K (.ref f10) = true)
    (a11 : PySem.W.nsIn K mainGlobals "_law_cell_at" = some (some (.ref f11))) (l11 : K.lookup f11 = some ⟨oc11, od11, .func (PySem.W.fnOf "_law_cell_at" "_law_cell_at" (defArgs s__law_cell_at) (defBody s__law_cell_at) (defScope s__law_cell_at) .none kV11 dc11 pm11 an11 cd11 ct11), sl11⟩) (c11 : PySem.W.codeIn K cd11 "_law_cell_at" = true) (k11 : PySem.W.keepIn K (.ref f11) = true)
    (a12 : PySem.W.nsIn K mainGlobals "_law_whole" = some (some (.ref f12))) (l12 : K.lookup f12 = some ⟨oc12, od12, .func (PySem.W.fnOf "_law_whole" "_law_whole" (defArgs s__law_whole) (defBody s__law_whole) (defScope s__law_whole) .none kV12 dc12 pm12 an12 cd12 ct12), sl12⟩) (c12 : PySem.W.codeIn K cd12 "_law_whole" = true) (k12 : PySem.W.keepIn K (.ref f12) = true)
    (a13 : PySem.W.nsIn K mainGlobals "_law_rule_by" = some (some (.ref f13))) (l13 : K.lookup f13 = some ⟨oc13, od13, .func (PySem.W.fnOf "_law_rule_by" "_law_rule_by" (defArgs s__law_rule_by) (defBody s__law_rule_by) (defScope s__law_rule_by) .none kV13 dc13 pm13 an13 cd13 ct13), sl13⟩) (c13 : PySem.W.codeIn K cd13 "_law_rule_by" = true) (k13 : PySem.W.keepIn K (.ref f13) = true)
    (a14 : PySem.W.nsIn K mainGlobals "_law_named" = some (some (.ref f14))) (l14 : K.lookup f14 = some ⟨oc14, od14, .func (PySem.W.fnOf "_law_named" "_law_named" (defArgs s__law_named) (defBody s__law_named) (defScope s__law_named) .none kV14 dc14 pm14 an14 cd14 ct14), sl14⟩) (c14 : PySem.W.codeIn K cd14 "_law_named" = true) (k14 : PySem.W.keepIn K (.ref f14) = true)
    (a15 : PySem.W.nsIn K mainGlobals "_law_board_by" = some (some (.ref f15))) (l15 : K.lookup f15 = some ⟨oc15, od15, .func (PySem.W.fnOf "_law_board_by" "_law_board_by" (defArgs s__law_board_by) (defBody s__law_board_by) (defScope s__law_board_by) .none kV15 dc15 pm15 an15 cd15 ct15), sl15⟩) (c15 : PySem.W.codeIn K cd15 "_law_board_by" = true) (k15 : PySem.W.keepIn K (.ref f15) = true)
    (a16 : PySem.W.nsIn K mainGlobals "_law_size" = some (some (.ref f16))) (l16 : K.lookup f16 = some ⟨oc16, od16, .func (PySem.W.fnOf "_law_size" "_law_size" (defArgs s__law_size) (defBody s__law_size) (defScope s__law_size) .none kV16 dc16 pm16 an16 cd16 ct16), sl16⟩) (c16 : PySem.W.codeIn K cd16 "_law_size" = true) (k16 : PySem.W.keepIn K (.ref f16) = true)
    (a17 : PySem.W.nsIn K mainGlobals "_law_is_board" = some (some (.ref f17))) (l17 : K.lookup f17 = some ⟨oc17, od17, .func (PySem.W.fnOf "_law_is_board" "_law_is_board" (defArgs s__law_is_board) (defBody s__law_is_board) (defScope s__law_is_board) .none kV17 dc17 pm17 an17 cd17 ct17), sl17⟩) (c17 : PySem.W.codeIn K cd17 "_law_is_board" = true) (k17 : PySem.W.keepIn K (.ref f17) = true)
    (a18 : PySem.W.nsIn K mainGlobals "law" = some (some (.ref f18))) (l18 : K.lookup f18 = some ⟨oc18, od18, .func (PySem.W.fnOf "law" "law" (defArgs s_law) (defBody s_law) (defScope s_law) .none kV18 dc18 pm18 an18 cd18 ct18), sl18⟩) (c18 : PySem.W.codeIn K cd18 "law" = true) (k18 : PySem.W.keepIn K (.ref f18) = true)
    (nP_BlockError : PySem.W.nsIn K mainGlobals "BlockError" = some (some (.ref C_BlockError))) (xP_BlockError : PySem.W.excIn K C_BlockError [.type "ValueError", .type "Exception", .type "BaseException", .type "object"] "ValueError.__new__" = true) (kP_BlockError : PySem.W.keepIn K (.ref C_BlockError) = true) (bP_BlockError : PySem.W.subIn K (.ref C_BlockError) (.type "BaseException") = some true) (vP_BlockError : PySem.W.subIn K (.ref C_BlockError) (.type "ValueError") = some true) (tP_BlockError : PySem.W.typeIn K (.ref C_BlockError) = some (.type "type")) (iP_BlockError : PySem.W.isClsIn K C_BlockError = true) (sP_BlockError : PySem.W.subIn K (.ref C_BlockError) (.ref C_BlockError) = some true)
    (eg_BlockError : PySem.W.findIn K (.ref C_BlockError) "__getattribute__" = some (some (.builtin "BaseException.__getattribute__"))) (ek_BlockError : PySem.W.findIn K (.ref C_BlockError) "__getattr__" = some none) (ed_BlockError : PySem.W.hasDictIn K C_BlockError = true) (ea_BlockError : PySem.W.findIn K (.ref C_BlockError) "__class__" = some (some (.builtin "object.__class__"))) (em_BlockError : PySem.W.mroIn K C_BlockError (.type "object") = some true)
    (nP_NoBoard : PySem.W.nsIn K mainGlobals "NoBoard" = some (some (.ref C_NoBoard))) (xP_NoBoard : PySem.W.excIn K C_NoBoard [.type "ValueError", .type "Exception", .type "BaseException", .type "object"] "ValueError.__new__" = true) (kP_NoBoard : PySem.W.keepIn K (.ref C_NoBoard) = true) (bP_NoBoard : PySem.W.subIn K (.ref C_NoBoard) (.type "BaseException") = some true) (vP_NoBoard : PySem.W.subIn K (.ref C_NoBoard) (.type "ValueError") = some true) (tP_NoBoard : PySem.W.typeIn K (.ref C_NoBoard) = some (.type "type")) (iP_NoBoard : PySem.W.isClsIn K C_NoBoard = true) (sP_NoBoard : PySem.W.subIn K (.ref C_NoBoard) (.ref C_NoBoard) = some true)
    (eg_NoBoard : PySem.W.findIn K (.ref C_NoBoard) "__getattribute__" = some (some (.builtin "BaseException.__getattribute__"))) (ek_NoBoard : PySem.W.findIn K (.ref C_NoBoard) "__getattr__" = some none) (ed_NoBoard : PySem.W.hasDictIn K C_NoBoard = true) (ea_NoBoard : PySem.W.findIn K (.ref C_NoBoard) "__class__" = some (some (.builtin "object.__class__"))) (em_NoBoard : PySem.W.mroIn K C_NoBoard (.type "object") = some true)
    (nP_NoRule : PySem.W.nsIn K mainGlobals "NoRule" = some (some (.ref C_NoRule))) (xP_NoRule : PySem.W.excIn K C_NoRule [.type "ValueError", .type "Exception", .type "BaseException", .type "object"] "ValueError.__new__" = true) (kP_NoRule : PySem.W.keepIn K (.ref C_NoRule) = true) (bP_NoRule : PySem.W.subIn K (.ref C_NoRule) (.type "BaseException") = some true) (vP_NoRule : PySem.W.subIn K (.ref C_NoRule) (.type "ValueError") = some true) (tP_NoRule : PySem.W.typeIn K (.ref C_NoRule) = some (.type "type")) (iP_NoRule : PySem.W.isClsIn K C_NoRule = true) (sP_NoRule : PySem.W.subIn K (.ref C_NoRule) (.ref C_NoRule) = some true)
    (eg_NoRule : PySem.W.findIn K (.ref C_NoRule) "__getattribute__" = some (some (.builtin "BaseException.__getattribute__"))) (ek_NoRule : PySem.W.findIn K (.ref C_NoRule) "__getattr__" = some none) (ed_NoRule : PySem.W.hasDictIn K C_NoRule = true) (ea_NoRule : PySem.W.findIn K (.ref C_NoRule) "__class__" = some (some (.builtin "object.__class__"))) (em_NoRule : PySem.W.mroIn K C_NoRule (.type "object") = some true)
    (nP_NotBack : PySem.W.nsIn K mainGlobals "NotBack" = some (some (.ref C_NotBack))) (xP_NotBack : PySem.W.excIn K C_NotBack [.type "ValueError", .type "Exception", .type "BaseException", .type "object"] "ValueError.__new__" = true) (kP_NotBack : PySem.W.keepIn K (.ref C_NotBack) = true) (bP_NotBack : PySem.W.subIn K (.ref C_NotBack) (.type "BaseException") = some true) (vP_NotBack : PySem.W.subIn K (.ref C_NotBack) (.type "ValueError") = some true) (tP_NotBack : PySem.W.typeIn K (.ref C_NotBack) = some (.type "type")) (iP_NotBack : PySem.W.isClsIn K C_NotBack = true) (sP_NotBack : PySem.W.subIn K (.ref C_NotBack) (.ref C_NotBack) = some true)
    (eg_NotBack : PySem.W.findIn K (.ref C_NotBack) "__getattribute__" = some (some (.builtin "BaseException.__getattribute__"))) (ek_NotBack : PySem.W.findIn K (.ref C_NotBack) "__getattr__" = some none) (ed_NotBack : PySem.W.hasDictIn K C_NotBack = true) (ea_NotBack : PySem.W.findIn K (.ref C_NotBack) "__class__" = some (some (.builtin "object.__class__"))) (em_NotBack : PySem.W.mroIn K C_NotBack (.type "object") = some true)
    (nP_BadNote : PySem.W.nsIn K mainGlobals "BadNote" = some (some (.ref C_BadNote))) (xP_BadNote : PySem.W.excIn K C_BadNote [.type "ValueError", .type "Exception", .type "BaseException", .type "object"] "ValueError.__new__" = true) (kP_BadNote : PySem.W.keepIn K (.ref C_BadNote) = true) (bP_BadNote : PySem.W.subIn K (.ref C_BadNote) (.type "BaseException") = some true) (vP_BadNote : PySem.W.subIn K (.ref C_BadNote) (.type "ValueError") = some true) (tP_BadNote : PySem.W.typeIn K (.ref C_BadNote) = some (.type "type")) (iP_BadNote : PySem.W.isClsIn K C_BadNote = true) (sP_BadNote : PySem.W.subIn K (.ref C_BadNote) (.ref C_BadNote) = some true)
    (eg_BadNote : PySem.W.findIn K (.ref C_BadNote) "__getattribute__" = some (some (.builtin "BaseException.__getattribute__"))) (ek_BadNote : PySem.W.findIn K (.ref C_BadNote) "__getattr__" = some none) (ed_BadNote : PySem.W.hasDictIn K C_BadNote = true) (ea_BadNote : PySem.W.findIn K (.ref C_BadNote) "__class__" = some (some (.builtin "object.__class__"))) (em_BadNote : PySem.W.mroIn K C_BadNote (.type "object") = some true)
    {V_FIGURES : Tok} (nC_FIGURES : PySem.W.nsIn K mainGlobals "FIGURES" = some (some (Value.str "0123456789" V_FIGURES)))
    (en_ : PySem.W.specialIn K (.builtin "object.__class__") "__get__" = some (some (.builtin "getset_descriptor.__get__"))) (et_ : PySem.W.takesIn K (.builtin "object.__class__") = some true)
    (s_BlockError_NoBoard : PySem.W.subIn K (.ref C_BlockError) (.ref C_NoBoard) = some false)
    (s_BlockError_NoRule : PySem.W.subIn K (.ref C_BlockError) (.ref C_NoRule) = some false)
    (s_BlockError_NotBack : PySem.W.subIn K (.ref C_BlockError) (.ref C_NotBack) = some false)
    (s_BlockError_BadNote : PySem.W.subIn K (.ref C_BlockError) (.ref C_BadNote) = some false)
    (s_NoBoard_BlockError : PySem.W.subIn K (.ref C_NoBoard) (.ref C_BlockError) = some true)
    (s_NoBoard_NoRule : PySem.W.subIn K (.ref C_NoBoard) (.ref C_NoRule) = some false)
    (s_NoBoard_NotBack : PySem.W.subIn K (.ref C_NoBoard) (.ref C_NotBack) = some false)
    (s_NoBoard_BadNote : PySem.W.subIn K (.ref C_NoBoard) (.ref C_BadNote) = some false)
    (s_NoRule_BlockError : PySem.W.subIn K (.ref C_NoRule) (.ref C_BlockError) = some true)
    (s_NoRule_NoBoard : PySem.W.subIn K (.ref C_NoRule) (.ref C_NoBoard) = some false)
    (s_NoRule_NotBack : PySem.W.subIn K (.ref C_NoRule) (.ref C_NotBack) = some false)
    (s_NoRule_BadNote : PySem.W.subIn K (.ref C_NoRule) (.ref C_BadNote) = some false)
    (s_NotBack_BlockError : PySem.W.subIn K (.ref C_NotBack) (.ref C_BlockError) = some true)
    (s_NotBack_NoBoard : PySem.W.subIn K (.ref C_NotBack) (.ref C_NoBoard) = some false)
    (s_NotBack_NoRule : PySem.W.subIn K (.ref C_NotBack) (.ref C_NoRule) = some false)
    (s_NotBack_BadNote : PySem.W.subIn K (.ref C_NotBack) (.ref C_BadNote) = some false)
    (s_BadNote_BlockError : PySem.W.subIn K (.ref C_BadNote) (.ref C_BlockError) = some true)
    (s_BadNote_NoBoard : PySem.W.subIn K (.ref C_BadNote) (.ref C_NoBoard) = some false)
    (s_BadNote_NoRule : PySem.W.subIn K (.ref C_BadNote) (.ref C_NoRule) = some false)
    (s_BadNote_NotBack : PySem.W.subIn K (.ref C_BadNote) (.ref C_NotBack) = some false)
    (z_bool : PySem.W.nsIn K mainGlobals "bool" = some none)
    (z_int : PySem.W.nsIn K mainGlobals "int" = some none)
    (z_isinstance : PySem.W.nsIn K mainGlobals "isinstance" = some none)
    (z_len : PySem.W.nsIn K mainGlobals "len" = some none)
    (z_list : PySem.W.nsIn K mainGlobals "list" = some none)
    (z_range : PySem.W.nsIn K mainGlobals "range" = some none)
    (z_set : PySem.W.nsIn K mainGlobals "set" = some none)
    (z_str : PySem.W.nsIn K mainGlobals "str" = some none)
    (z_sum : PySem.W.nsIn K mainGlobals "sum" = some none)
    (z_tuple : PySem.W.nsIn K mainGlobals "tuple" = some none)
    : ∃ fd : FuncData, (∀ (s : Shared) (v : Value), BindsTo s fd ⟨[v], []⟩ [("script", v)]) ∧ ∀ base : Heap, K.In base → base.Ns mainGlobals mg → FnOk l.prog w K mg base CX0 4 fa fd ["script"] (sp_law K) := by
  have e := hfa.symm.trans (PySem.W.mg_of X G a18)
  cases e
  have B : Bl mg := ⟨PySem.W.mg_none_of X G z_bool, PySem.W.mg_none_of X G z_int, PySem.W.mg_none_of X G z_isinstance, PySem.W.mg_none_of X G z_len, PySem.W.mg_none_of X G z_list, PySem.W.mg_none_of X G z_range, PySem.W.mg_none_of X G z_set, PySem.W.mg_none_of X G z_str, PySem.W.mg_none_of X G z_sum, PySem.W.mg_none_of X G z_tuple⟩
  have Cl : Cls K mg C_BlockError C_NoBoard C_NoRule C_NotBack C_BadNote := ⟨⟨nP_BlockError, PySem.W.mg_of X G nP_BlockError, xP_BlockError, kP_BlockError, bP_BlockError, vP_BlockError, tP_BlockError, iP_BlockError, sP_BlockError, ⟨eg_BlockError, ek_BlockError, bP_BlockError, ed_BlockError, ea_BlockError, en_, et_, em_BlockError⟩⟩, ⟨nP_NoBoard, PySem.W.mg_of X G nP_NoBoard, xP_NoBoard, kP_NoBoard, bP_NoBoard, vP_NoBoard, tP_NoBoard, iP_NoBoard, sP_NoBoard, ⟨eg_NoBoard, ek_NoBoard, bP_NoBoard, ed_NoBoard, ea_NoBoard, en_, et_, em_NoBoard⟩⟩, ⟨nP_NoRule, PySem.W.mg_of X G nP_NoRule, xP_NoRule, kP_NoRule, bP_NoRule, vP_NoRule, tP_NoRule, iP_NoRule, sP_NoRule, ⟨eg_NoRule, ek_NoRule, bP_NoRule, ed_NoRule, ea_NoRule, en_, et_, em_NoRule⟩⟩, ⟨nP_NotBack, PySem.W.mg_of X G nP_NotBack, xP_NotBack, kP_NotBack, bP_NotBack, vP_NotBack, tP_NotBack, iP_NotBack, sP_NotBack, ⟨eg_NotBack, ek_NotBack, bP_NotBack, ed_NotBack, ea_NotBack, en_, et_, em_NotBack⟩⟩, ⟨nP_BadNote, PySem.W.mg_of X G nP_BadNote, xP_BadNote, kP_BadNote, bP_BadNote, vP_BadNote, tP_BadNote, iP_BadNote, sP_BadNote, ⟨eg_BadNote, ek_BadNote, bP_BadNote, ed_BadNote, ea_BadNote, en_, et_, em_BadNote⟩⟩, s_BlockError_NoBoard, s_BlockError_NoRule, s_BlockError_NotBack, s_BlockError_BadNote, s_NoBoard_BlockError, s_NoBoard_NoRule, s_NoBoard_NotBack, s_NoBoard_BadNote, s_NoRule_BlockError, s_NoRule_NoBoard, s_NoRule_NotBack, s_NoRule_BadNote, s_NotBack_BlockError, s_NotBack_NoBoard, s_NotBack_NoRule, s_NotBack_BadNote, s_BadNote_BlockError, s_BadNote_NoBoard, s_BadNote_NoRule, s_BadNote_NotBack⟩
  have F1 := fun_mk (st := s_looked) l1 c1 k1
  have D1 : DefAt K mg "looked" s_looked ["rule", "colours"] _ _ := ⟨PySem.W.mg_of X G a1, F1, F1.binds (ps := ["rule", "colours"]) fun _ _ _ _ _ _ us hl => match us, hl with | [_, _], _ => rfl⟩
  have F2 := fun_mk (st := s_is_size) l2 c2 k2
  have D2 : DefAt K mg "is_size" s_is_size ["many"] _ _ := ⟨PySem.W.mg_of X G a2, F2, F2.binds (ps := ["many"]) fun _ _ _ _ _ _ us hl => match us, hl with | [_], _ => rfl⟩
  have F3 := fun_mk (st := s_looked_board) l3 c3 k3
  have D3 : DefAt K mg "looked_board" s_looked_board ["board", "colours"] _ _ := ⟨PySem.W.mg_of X G a3, F3, F3.binds (ps := ["board", "colours"]) fun _ _ _ _ _ _ us hl => match us, hl with | [_, _], _ => rfl⟩
  have F4 := fun_mk (st := s_board_shown) l4 c4 k4
  have D4 : DefAt K mg "board_shown" s_board_shown ["board"] _ _ := ⟨PySem.W.mg_of X G a4, F4, F4.binds (ps := ["board"]) fun _ _ _ _ _ _ us hl => match us, hl with | [_], _ => rfl⟩
  have F5 := fun_mk (st := s_rule_shown) l5 c5 k5
  have D5 : DefAt K mg "rule_shown" s_rule_shown ["rule", "colours"] _ _ := ⟨PySem.W.mg_of X G a5, F5, F5.binds (ps := ["rule", "colours"]) fun _ _ _ _ _ _ us hl => match us, hl with | [_, _], _ => rfl⟩
  have F6 := fun_mk (st := s_lines_of) l6 c6 k6
  have D6 : DefAt K mg "lines_of" s_lines_of ["text"] _ _ := ⟨PySem.W.mg_of X G a6, F6, F6.binds (ps := ["text"]) fun _ _ _ _ _ _ us hl => match us, hl with | [_], _ => rfl⟩
  have F7 := fun_mk (st := s_row_of) l7 c7 k7
  have D7 : DefAt K mg "row_of" s_row_of ["line"] _ _ := ⟨PySem.W.mg_of X G a7, F7, F7.binds (ps := ["line"]) fun _ _ _ _ _ _ us hl => match us, hl with | [_], _ => rfl⟩
  have F8 := fun_mk (st := s_read_board) l8 c8 k8
  have D8 : DefAt K mg "read_board" s_read_board ["text", "colours"] _ _ := ⟨PySem.W.mg_of X G a8, F8, F8.binds (ps := ["text", "colours"]) fun _ _ _ _ _ _ us hl => match us, hl with | [_, _], _ => rfl⟩
  have F9 := fun_mk (st := s_whole_of) l9 c9 k9
  have D9 : DefAt K mg "whole_of" s_whole_of ["word"] _ _ := ⟨PySem.W.mg_of X G a9, F9, F9.binds (ps := ["word"]) fun _ _ _ _ _ _ us hl => match us, hl with | [_], _ => rfl⟩
  have F10 := fun_mk (st := s_read_rule) l10 c10 k10
  have D10 : DefAt K mg "read_rule" s_read_rule ["text"] _ _ := ⟨PySem.W.mg_of X G a10, F10, F10.binds (ps := ["text"]) fun _ _ _ _ _ _ us hl => match us, hl with | [_], _ => rfl⟩
  have F11 := fun_mk (st := s__law_cell_at) l11 c11 k11
  have D11 : DefAt K mg "_law_cell_at" s__law_cell_at ["script", "k"] _ _ := ⟨PySem.W.mg_of X G a11, F11, F11.binds (ps := ["script", "k"]) fun _ _ _ _ _ _ us hl => match us, hl with | [_, _], _ => rfl⟩
  have F12 := fun_mk (st := s__law_whole) l12 c12 k12
  have D12 : DefAt K mg "_law_whole" s__law_whole ["found"] _ _ := ⟨PySem.W.mg_of X G a12, F12, F12.binds (ps := ["found"]) fun _ _ _ _ _ _ us hl => match us, hl with | [_], _ => rfl⟩
  have F13 := fun_mk (st := s__law_rule_by) l13 c13 k13
  have D13 : DefAt K mg "_law_rule_by" s__law_rule_by ["cell", "colours"] _ _ := ⟨PySem.W.mg_of X G a13, F13, F13.binds (ps := ["cell", "colours"]) fun _ _ _ _ _ _ us hl => match us, hl with | [_, _], _ => rfl⟩
  have F14 := fun_mk (st := s__law_named) l14 c14 k14
  have D14 : DefAt K mg "_law_named" s__law_named ["kind", "number"] _ _ := ⟨PySem.W.mg_of X G a14, F14, F14.binds (ps := ["kind", "number"]) fun _ _ _ _ _ _ us hl => match us, hl with | [_, _], _ => rfl⟩
  have F15 := fun_mk (st := s__law_board_by) l15 c15 k15
  have D15 : DefAt K mg "_law_board_by" s__law_board_by ["cell", "width", "height", "colours"] _ _ := ⟨PySem.W.mg_of X G a15, F15, F15.binds (ps := ["cell", "width", "height", "colours"]) fun _ _ _ _ _ _ us hl => match us, hl with | [_, _, _, _], _ => rfl⟩
  have F16 := fun_mk (st := s__law_size) l16 c16 k16
  have D16 : DefAt K mg "_law_size" s__law_size ["cell"] _ _ := ⟨PySem.W.mg_of X G a16, F16, F16.binds (ps := ["cell"]) fun _ _ _ _ _ _ us hl => match us, hl with | [_], _ => rfl⟩
  have F17 := fun_mk (st := s__law_is_board) l17 c17 k17
  have D17 : DefAt K mg "_law_is_board" s__law_is_board ["found", "due"] _ _ := ⟨PySem.W.mg_of X G a17, F17, F17.binds (ps := ["found", "due"]) fun _ _ _ _ _ _ us hl => match us, hl with | [_, _], _ => rfl⟩
  have F18 := fun_mk (st := s_law) l18 c18 k18
  have D18 : DefAt K mg "law" s_law ["script"] _ _ := ⟨PySem.W.mg_of X G a18, F18, F18.binds (ps := ["script"]) fun _ _ _ _ _ _ us hl => match us, hl with | [_], _ => rfl⟩
  refine ⟨PySem.W.fnOf "law" "law" (defArgs s_law) (defBody s_law) (defScope s_law) .none kV18 dc18 pm18 an18 cd18 ct18, fun s v => .of_eq rfl, fun base _ _ => ?_⟩
  have C__law_cell_at := cal__law_cell_at (P := l.prog) (w := w) (base := base) B D11 
  have C__law_named := cal__law_named (P := l.prog) (w := w) (base := base) B D14 
  have C__law_rule_by := cal__law_rule_by (P := l.prog) (w := w) (base := base) B D13 C__law_named
  have C__law_size := cal__law_size (P := l.prog) (w := w) (base := base) B D16 
  have C__law_board_by := cal__law_board_by (P := l.prog) (w := w) (base := base) B D15 
  have C_board_shown := cal_board_shown (P := l.prog) (w := w) (base := base) B D4 
  have C_lines_of := cal_lines_of (P := l.prog) (w := w) (base := base) B D6 Cl 
  have C_row_of := cal_row_of (P := l.prog) (w := w) (base := base) B D7 Cl (PySem.W.mg_of X G nC_FIGURES) 
  have C_is_size := cal_is_size (P := l.prog) (w := w) (base := base) B D2 
  have C_looked_board := cal_looked_board (P := l.prog) (w := w) (base := base) B D3 Cl C_is_size
  have C_read_board := cal_read_board (P := l.prog) (w := w) (base := base) B D8 C_lines_of C_row_of C_looked_board
  have C__law_whole := cal__law_whole (P := l.prog) (w := w) (base := base) B D12 
  have C__law_is_board := cal__law_is_board (P := l.prog) (w := w) (base := base) B D17 C__law_whole
  have C_rule_shown := cal_rule_shown (P := l.prog) (w := w) (base := base) B D5 
  have C_whole_of := cal_whole_of (P := l.prog) (w := w) (base := base) B D9 Cl (PySem.W.mg_of X G nC_FIGURES) 
  have C_looked := cal_looked (P := l.prog) (w := w) (base := base) B D1 Cl 
  have C_read_rule := cal_read_rule (P := l.prog) (w := w) (base := base) B D10 Cl C_lines_of C_whole_of C_looked
  exact ok_law (P := l.prog) (w := w) (base := base) B D18 C__law_cell_at C__law_rule_by C__law_size C__law_board_by C_board_shown C_read_board C__law_is_board C_rule_shown C_read_rule C__law_whole
end BT
open PySem PySem.W PyProof.Rows
set_option maxHeartbeats 0 in
theorem PySem.Challenge.cw_blockturn_k16_boards_and_rules_written_holds : PySem.Challenge.rw_blockturn_k16_boards_and_rules_written.Holds := by
  w_on; o_law; k_head; (case hw => w_witness2)
  k_fill
  refine L2.walk_of (l := PySem.Challenge.rw_blockturn_k16_boards_and_rules_written) (n := 63) (k := 4) (x := "script") (CX := fun _ => L2.CX0) (sp := fun w => BT.sp_law _) rfl (by decide) rfl ⟨rfl, by decide, by decide⟩ (fun w h Y => PySem.W.kIn_of Y) ?F (fun _ _ a ns hl _ hS => BT.sp_law_of hS hl) (fun _ _ _ _ _ h => h)
  case F =>
    intro w mg fa h KX G hmg
    refine' BT.all_mk KX G hmg ?a1 ?l1 ?c1 ?k1 ?a2 ?l2 ?c2 ?k2 ?a3 ?l3 ?c3 ?k3 ?a4 ?l4 ?c4 ?k4 ?a5 ?l5 ?c5 ?k5 ?a6 ?l6 ?c6 ?k6 ?a7 ?l7 ?c7 ?k7 ?a8 ?l8 ?c8 ?k8 ?a9 ?l9 ?c9 ?k9 ?a10 ?l10 ?c10 ?k10 ?a11 ?l11 ?c11 ?k11 ?a12 ?l12 ?c12 ?k12 ?a13 ?l13 ?c13 ?k13 ?a14 ?l14 ?c14 ?k14 ?a15 ?l15 ?c15 ?k15 ?a16 ?l16 ?c16 ?k16 ?a17 ?l17 ?c17 ?k17 ?a18 ?l18 ?c18 ?k18 ?nP_BlockError ?xP_BlockError ?kP_BlockError ?bP_BlockError ?vP_BlockError ?tP_BlockError ?iP_BlockError ?sP_BlockError ?eg_BlockError ?ek_BlockError ?ed_BlockError ?ea_BlockError ?em_BlockError ?nP_NoBoard ?xP_NoBoard ?kP_NoBoard ?bP_NoBoard ?vP_NoBoard ?tP_NoBoard ?iP_NoBoard ?sP_NoBoard ?eg_NoBoard ?ek_NoBoard ?ed_NoBoard ?ea_NoBoard ?em_NoBoard ?nP_NoRule ?xP_NoRule ?kP_NoRule ?bP_NoRule ?vP_NoRule ?tP_NoRule ?iP_NoRule ?sP_NoRule ?eg_NoRule ?ek_NoRule ?ed_NoRule ?ea_NoRule ?em_NoRule ?nP_NotBack ?xP_NotBack ?kP_NotBack ?bP_NotBack ?vP_NotBack ?tP_NotBack ?iP_NotBack ?sP_NotBack ?eg_NotBack ?ek_NotBack ?ed_NotBack ?ea_NotBack ?em_NotBack ?nP_BadNote ?xP_BadNote ?kP_BadNote ?bP_BadNote ?vP_BadNote ?tP_BadNote ?iP_BadNote ?sP_BadNote ?eg_BadNote ?ek_BadNote ?ed_BadNote ?ea_BadNote ?em_BadNote ?nC_FIGURES ?en_ ?et_ ?s_BlockError_NoBoard ?s_BlockError_NoRule ?s_BlockError_NotBack ?s_BlockError_BadNote ?s_NoBoard_BlockError ?s_NoBoard_NoRule ?s_NoBoard_NotBack ?s_NoBoard_BadNote ?s_NoRule_BlockError ?s_NoRule_NoBoard ?s_NoRule_NotBack ?s_NoRule_BadNote ?s_NotBack_BlockError ?s_NotBack_NoBoard ?s_NotBack_NoRule ?s_NotBack_BadNote ?s_BadNote_BlockError ?s_BadNote_NoBoard ?s_BadNote_NoRule ?s_BadNote_NotBack ?z_bool ?z_int ?z_isinstance ?z_len ?z_list ?z_range ?z_set ?z_str ?z_sum ?z_tuple
    (case a1 => k_is); (case l1 => k_is); (case c1 => k_is); (case k1 => k_is); (case a2 => k_is); (case l2 => k_is); (case c2 => k_is); (case k2 => k_is); (case a3 => k_is); (case l3 => k_is); (case c3 => k_is); (case k3 => k_is); (case a4 => k_is); (case l4 => k_is); (case c4 => k_is); (case k4 => k_is); (case a5 => k_is); (case l5 => k_is); (case c5 => k_is); (case k5 => k_is); (case a6 => k_is); (case l6 => k_is); (case c6 => k_is); (case k6 => k_is); (case a7 => k_is); (case l7 => k_is); (case c7 => k_is); (case k7 => k_is); (case a8 => k_is); (case l8 => k_is); (case c8 => k_is); (case k8 => k_is); (case a9 => k_is); (case l9 => k_is); (case c9 => k_is); (case k9 => k_is); (case a10 => k_is); (case l10 => k_is); (case c10 => k_is); (case k10 => k_is); (case a11 => k_is); (case l11 => k_is); (case c11 => k_is); (case k11 => k_is); (case a12 => k_is); (case l12 => k_is); (case c12 => k_is); (case k12 => k_is); (case a13 => k_is); (case l13 => k_is); (case c13 => k_is); (case k13 => k_is); (case a14 => k_is); (case l14 => k_is); (case c14 => k_is); (case k14 => k_is); (case a15 => k_is); (case l15 => k_is); (case c15 => k_is); (case k15 => k_is); (case a16 => k_is); (case l16 => k_is); (case c16 => k_is); (case k16 => k_is); (case a17 => k_is); (case l17 => k_is); (case c17 => k_is); (case k17 => k_is); (case a18 => k_is); (case l18 => k_is); (case c18 => k_is); (case k18 => k_is); (case nP_BlockError => k_is); (case xP_BlockError => k_exc); (case kP_BlockError => k_is); (case bP_BlockError => k_is); (case vP_BlockError => k_is); (case tP_BlockError => k_is); (case iP_BlockError => k_is); (case sP_BlockError => k_is); (case eg_BlockError => k_is); (case ek_BlockError => k_is); (case ed_BlockError => k_is); (case ea_BlockError => k_is); (case em_BlockError => k_is); (case nP_NoBoard => k_is); (case xP_NoBoard => k_exc); (case kP_NoBoard => k_is); (case bP_NoBoard => k_is); (case vP_NoBoard => k_is); (case tP_NoBoard => k_is); (case iP_NoBoard => k_is); (case sP_NoBoard => k_is); (case eg_NoBoard => k_is); (case ek_NoBoard => k_is); (case ed_NoBoard => k_is); (case ea_NoBoard => k_is); (case em_NoBoard => k_is); (case nP_NoRule => k_is); (case xP_NoRule => k_exc); (case kP_NoRule => k_is); (case bP_NoRule => k_is); (case vP_NoRule => k_is); (case tP_NoRule => k_is); (case iP_NoRule => k_is); (case sP_NoRule => k_is); (case eg_NoRule => k_is); (case ek_NoRule => k_is); (case ed_NoRule => k_is); (case ea_NoRule => k_is); (case em_NoRule => k_is); (case nP_NotBack => k_is); (case xP_NotBack => k_exc); (case kP_NotBack => k_is); (case bP_NotBack => k_is); (case vP_NotBack => k_is); (case tP_NotBack => k_is); (case iP_NotBack => k_is); (case sP_NotBack => k_is); (case eg_NotBack => k_is); (case ek_NotBack => k_is); (case ed_NotBack => k_is); (case ea_NotBack => k_is); (case em_NotBack => k_is); (case nP_BadNote => k_is); (case xP_BadNote => k_exc); (case kP_BadNote => k_is); (case bP_BadNote => k_is); (case vP_BadNote => k_is); (case tP_BadNote => k_is); (case iP_BadNote => k_is); (case sP_BadNote => k_is); (case eg_BadNote => k_is); (case ek_BadNote => k_is); (case ed_BadNote => k_is); (case ea_BadNote => k_is); (case em_BadNote => k_is); (case nC_FIGURES => k_is); (case en_ => k_is); (case et_ => k_is); (case s_BlockError_NoBoard => k_is); (case s_BlockError_NoRule => k_is); (case s_BlockError_NotBack => k_is); (case s_BlockError_BadNote => k_is); (case s_NoBoard_BlockError => k_is); (case s_NoBoard_NoRule => k_is); (case s_NoBoard_NotBack => k_is); (case s_NoBoard_BadNote => k_is); (case s_NoRule_BlockError => k_is); (case s_NoRule_NoBoard => k_is); (case s_NoRule_NotBack => k_is); (case s_NoRule_BadNote => k_is); (case s_NotBack_BlockError => k_is); (case s_NotBack_NoBoard => k_is); (case s_NotBack_NoRule => k_is); (case s_NotBack_BadNote => k_is); (case s_BadNote_BlockError => k_is); (case s_BadNote_NoBoard => k_is); (case s_BadNote_NoRule => k_is); (case s_BadNote_NotBack => k_is); (case z_bool => k_is); (case z_int => k_is); (case z_isinstance => k_is); (case z_len => k_is); (case z_list => k_is); (case z_range => k_is); (case z_set => k_is); (case z_str => k_is); (case z_sum => k_is); (case z_tuple => k_is)
