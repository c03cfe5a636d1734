import PyProof.Rows.All
import Wide.All
import OpenK.AllK
import Wide.FinOn
import HandS.ForMost
import HandS.ForExc
import HandS.Evl
import HandS.IsInst
import HandS.Rev
import HandS.More
import HandS.Steps
import KE.KTupSum
import PySem.Challenge.RW_blockturn_k02_blocks_and_named_rules
set_option Elab.async false
set_option linter.all false
set_option maxRecDepth 100000
set_option maxHeartbeats 4000000
namespace BT
open PySem PySem.Spec PyProof.Rows L2 Evl
/-! ### defs by name, defs that are called -/
structure DefAt (K : PySem.W.Frag) (mg : Str → Option Value) (x : String) (st : Stmt) (ps : List Str) (f : Addr) (fd : FuncData) : Prop where
  g : mg x = some (.ref f)
  F : Fun K x x st f fd
  b : Binds K fd ps []
structure CalE (P : Program) (w : World) (K : PySem.W.Frag) (mg : Str → Option Value) (base : Heap) (CX : CXT) (k : Nat) (x : Str) (ps : List Str) (sp : Sp) : Prop where
  ex : ∃ (f : Addr) (fd : FuncData), FnOk P w K mg base CX k f fd ps sp ∧ mg x = some (.ref f) ∧ PySem.W.keepIn K (.ref f) = true ∧ Binds K fd ps []

/-! ### what a reading evaluates to, some value of which P holds -/
def Mono (P : V → Hp → Prop) : Prop := ∀ v H H', Ex H H' → P v H → P v H'
def EvP (te : TE) (σ : L2.St) (H : Hp) (P : V → Hp → Prop) : Prop := ∀ H1, Ex H H1 → ∀ Q : VK, (∀ v H2, Ex H1 H2 → P v H2 → Q v H2) → te σ H1 Q
def EvLP (te : TE) (σ : L2.St) (H : Hp) (n : Nat) (P : Nat → V → Hp → Prop) : Prop :=
  ∀ H1, Ex H H1 → ∀ Q : VK, (∀ p H2 vs, H1 p = none → Ex H1 H2 → H2 p = some (.lst vs) → vs.length = n → (∀ i v, vs[i]? = some v → P i v H2) → Q (.ref p) H2) → te σ H1 Q
def RetP (P : V → Hp → Prop) (H : Hp) (Q : VK) : Prop := ∀ v H2, Ex H H2 → P v H2 → Q v H2
def SpP (sp : Sp) (vs : List V) (H : Hp) (P : V → Hp → Prop) : Prop := ∀ H1, Ex H H1 → ∀ Q : VK, RetP P H1 Q → ∀ E : XK, sp vs H1 Q E
section
variable {K : PySem.W.Frag} {σ : L2.St} {H H' : Hp} {ta tb te tx : TE} {t u : TT} {x y z v : V} {r : R2} {P : V → Hp → Prop}
theorem EvU.mono {xs : List V} (e : Ex H H') (h : EvU te σ H xs) : EvU te σ H' xs := fun H1 e1 => h H1 (e.trans e1)
theorem EvP.mono (e : Ex H H') (h : EvP te σ H P) : EvP te σ H' P := fun H1 e1 => h H1 (e.trans e1)
theorem ep_of (h : Ev te σ H v) (hp : ∀ H1, Ex H H1 → P v H1) : EvP te σ H P := fun H1 e Q q => h H1 e Q fun H2 e2 => q v H2 e2 (hp H2 (e.trans e2))
theorem ep_weak {P' : V → Hp → Prop} (h : EvP te σ H P) (hp : ∀ v H1, Ex H H1 → P v H1 → P' v H1) : EvP te σ H P' := fun H1 e Q q => h H1 e Q fun v H2 e2 p => q v H2 e2 (hp v H2 (e.trans e2) p)
theorem ep_call {sp : Sp} {dvs vs : List V} {E : XK} {ta : TA} (h : EvA ta σ H vs) (hs : SpP sp (vs ++ dvs) H P) : EvP (tCall sp dvs E ta) σ H P :=
  fun H1 e Q q => h H1 e _ fun H2 e2 => hs H2 (e.trans e2) Q (fun v H3 e3 p => q v H3 (e2.trans e3) p) E
/-- an argument some of whose facts are known -/
def EvAP (ta : TA) (σ : L2.St) (H : Hp) (P : List V → Hp → Prop) : Prop := ∀ H1, Ex H H1 → ∀ Q : List V → Hp → Prop, (∀ vs H2, Ex H1 H2 → P vs H2 → Q vs H2) → ta σ H1 Q
theorem eap_of {ta : TA} {vs : List V} {P : List V → Hp → Prop} (h : EvA ta σ H vs) (hp : ∀ H1, Ex H H1 → P vs H1) : EvAP ta σ H P := fun H1 e Q q => h H1 e Q fun H2 e2 => q vs H2 e2 (hp H2 (e.trans e2))
theorem eap_cons {ta : TA} {P : V → Hp → Prop} {R S : List V → Hp → Prop} (hm : Mono P) (h : EvP te σ H P) (hr : EvAP ta σ H R) (hs : ∀ v vs H1, Ex H H1 → P v H1 → R vs H1 → S (v :: vs) H1) : EvAP (tCons te ta) σ H S :=
  fun H1 e Q q => h H1 e _ fun v H2 e2 p => hr H2 (e.trans e2) _ fun vs H3 e3 p3 => q (v :: vs) H3 (e2.trans e3) (hs v vs H3 ((e.trans e2).trans e3) (hm v H2 H3 e3 p) p3)
theorem ep_callP {sp : Sp} {dvs : List V} {E : XK} {ta : TA} {R : List V → Hp → Prop} (h : EvAP ta σ H R) (hs : ∀ vs H1, Ex H H1 → R vs H1 → SpP sp (vs ++ dvs) H1 P) : EvP (tCall sp dvs E ta) σ H P :=
  fun H1 e Q q => h H1 e _ fun vs H2 e2 p => hs vs H2 (e.trans e2) p H2 (Ex.refl H2) Q (fun v H3 e3 p => q v H3 (e2.trans e3) p) E
theorem ev_opP {P2 : V → Hp → Prop} (m : Mono P) (ha : EvP ta σ H P) (hb : EvP tb σ H P2) (hr : ∀ v u H1, Ex H H1 → P v H1 → P2 u H1 → RV r v u H1 z) : Ev (tOp r ta tb) σ H z :=
  fun H1 e Q q => ha H1 e _ fun v H2 e2 p => hb H2 (e.trans e2) _ fun u H3 e3 p2 => hr v u H3 ((e.trans e2).trans e3) (m v H2 H3 e3 p) p2 H3 (Ex.refl H3) Q fun H4 e4 => q H4 ((e2.trans e3).trans e4)
theorem ep_opP {P2 P3 : V → Hp → Prop} (m : Mono P) (ha : EvP ta σ H P) (hb : EvP tb σ H P2) (hr : ∀ v u H1, Ex H H1 → P v H1 → P2 u H1 → ∀ Q : VK, (∀ z H2, Ex H1 H2 → P3 z H2 → Q z H2) → r v u H1 Q) : EvP (tOp r ta tb) σ H P3 :=
  fun H1 e Q q => ha H1 e _ fun v H2 e2 p => hb H2 (e.trans e2) _ fun u H3 e3 p2 => hr v u H3 ((e.trans e2).trans e3) (m v H2 H3 e3 p) p2 Q fun z H4 e4 => q z H4 ((e2.trans e3).trans e4)
theorem ep_if {b : Bool} (h : EvT t σ H b) (h1 : b = true → EvP ta σ H P) (h2 : b = false → EvP tb σ H P) : EvP (tIf t ta tb) σ H P := by
  intro H1 e Q q
  refine h H1 e _ fun H2 e2 => ?_
  cases b with
  | true => exact h1 rfl H2 (e.trans e2) Q fun v H3 e3 p => q v H3 (e2.trans e3) p
  | false => exact h2 rfl H2 (e.trans e2) Q fun v H3 e3 p => q v H3 (e2.trans e3) p
/-- a new tuple, a new list, as some value -/
theorem ep_U {xs : List V} (h : EvU te σ H xs) (hp : ∀ p H1, Ex H H1 → H1 p = some (.tup xs) → P (.ref p) H1) : EvP te σ H P := fun H1 e Q q => h H1 e Q fun p H2 _ e2 hp2 => q _ H2 e2 (hp p H2 (e.trans e2) hp2)
theorem ep_L {xs : List V} (h : EvL te σ H xs) (hp : ∀ p H1, Ex H H1 → H1 p = some (.lst xs) → P (.ref p) H1) : EvP te σ H P := fun H1 e Q q => h H1 e Q fun p H2 _ e2 hp2 => q _ H2 e2 (hp p H2 (e.trans e2) hp2)

/-! ### operators -/
theorem rv_mod {i j : Int} (h : 0 < j) : RV (rI (fun _ j => 0 < j) fun i j => .int (i % j)) (.int i) (.int j) H (.int (i % j)) := rv_I h
theorem rv_fdiv {i j : Int} (h : 0 < j) (h2 : j < 1073741824) : RV (rI CDiv fun i j => .int (i / j)) (.int i) (.int j) H (.int (i / j)) := rv_I ⟨h, h2⟩
theorem rv_mulR {i j : Int} (h : -18446744073709551616 < j) (h2 : j < 18446744073709551616) : RV (rI CMul fun i j => .int (i * j)) (.int i) (.int j) H (.int (i * j)) := rv_I (.inr ⟨h, h2⟩)
theorem rv_mulL {i j : Int} (h : -18446744073709551616 < i) (h2 : i < 18446744073709551616) : RV (rI CMul fun i j => .int (i * j)) (.int i) (.int j) H (.int (i * j)) := rv_I (.inl ⟨h, h2⟩)
theorem rv_pow {i j : Int} (h : CPow i j) : RV (rI CPow fun i j => .int (i ^ j.toNat)) (.int i) (.int j) H (.int (i ^ j.toNat)) := rv_I h
theorem dec_i (a b : Int) : decide (V.int a = V.int b) = decide (a = b) := by
  by_cases h : a = b
  · rw [decide_eq_true h, decide_eq_true (congrArg V.int h)]
  · rw [decide_eq_false h, decide_eq_false (fun z => h (V.int.inj z))]
theorem dec_s (a b : Str) : decide (V.str a = V.str b) = decide (a = b) := by
  by_cases h : a = b
  · rw [decide_eq_true h, decide_eq_true (congrArg V.str h)]
  · rw [decide_eq_false h, decide_eq_false (fun z => h (V.str.inj z))]
theorem dec_b (a b : Bool) : decide (V.bl a = V.bl b) = decide (a = b) := by
  by_cases h : a = b
  · rw [decide_eq_true h, decide_eq_true (congrArg V.bl h)]
  · rw [decide_eq_false h, decide_eq_false (fun z => h (V.bl.inj z))]
theorem rv_eqI {a b : Int} : RV rEq (.int a) (.int b) H (.bl (decide (a = b))) := by
  have := rv_eq (H := H) (x := V.int a) (y := V.int b) rfl
  rwa [dec_i] at this
theorem rv_neI {a b : Int} : RV rNe (.int a) (.int b) H (.bl (decide (a ≠ b))) := by
  have := rv_ne (H := H) (x := V.int a) (y := V.int b) rfl
  rw [dec_i, ← decide_not] at this
  exact this
theorem rv_eqS {a b : Str} : RV rEq (.str a) (.str b) H (.bl (decide (a = b))) := by
  have := rv_eq (H := H) (x := V.str a) (y := V.str b) rfl
  rwa [dec_s] at this
theorem rv_neS {a b : Str} : RV rNe (.str a) (.str b) H (.bl (decide (a ≠ b))) := by
  have := rv_ne (H := H) (x := V.str a) (y := V.str b) rfl
  rw [dec_s, ← decide_not] at this
  exact this
theorem rv_eqBl {a b : Bool} : RV rEq (.bl a) (.bl b) H (.bl (decide (a = b))) := by
  have := rv_eq (H := H) (x := V.bl a) (y := V.bl b) rfl
  rwa [dec_b] at this
/-- a test whose value is known to be a proposition's -/
theorem et_yes : EvT tYes σ H true := fun H1 _ Q q => q H1 (Ex.refl H1)

/-! ### items -/
def at0 (ns : List Int) (i : Int) : Int := ns.getD i.toNat 0
theorem atI_at0 {ns : List Int} {i : Int} (h0 : 0 ≤ i) (h1 : i < (ns.length : Int)) : atI (ns.map V.int) i = some (.int (at0 ns i)) := by
  obtain ⟨j, rfl⟩ := Int.eq_ofNat_of_zero_le h0
  have hj : j < ns.length := by omega
  refine atI_nat ?_
  rw [List.getElem?_map, List.getElem?_eq_getElem hj]
  unfold at0
  rw [List.getD_eq_getElem?_getD, Int.toNat_natCast, List.getElem?_eq_getElem hj]
  rfl
theorem ev_ixL {p : Addr} {xs : List V} {i : Int} (ha : Ev ta σ H (.ref p)) (hb : Ev tb σ H (.int i)) (h : SqL K H p xs) (hx : atI xs i = some v) : Ev (tOp (rIxL K) ta tb) σ H v := ev_op ha hb (rv_ixL h hx)
theorem ev_ixT {p : Addr} {xs : List V} {i : Int} (ha : Ev ta σ H (.ref p)) (hb : Ev tb σ H (.int i)) (h : SqT K H p xs) (hx : atI xs i = some v) : Ev (tOp (rIxT K) ta tb) σ H v := ev_op ha hb (rv_ixT h hx)
theorem ev_ixLI {p : Addr} {ns : List Int} {i : Int} (ha : Ev ta σ H (.ref p)) (hb : Ev tb σ H (.int i)) (h : SqL K H p (ns.map V.int)) (h0 : 0 ≤ i) (h1 : i < (ns.length : Int)) : Ev (tOp (rIxL K) ta tb) σ H (.int (at0 ns i)) :=
  ev_ixL ha hb h (atI_at0 h0 h1)
theorem ev_ixTI {p : Addr} {ns : List Int} {i : Int} (ha : Ev ta σ H (.ref p)) (hb : Ev tb σ H (.int i)) (h : SqT K H p (ns.map V.int)) (h0 : 0 ≤ i) (h1 : i < (ns.length : Int)) : Ev (tOp (rIxT K) ta tb) σ H (.int (at0 ns i)) :=
  ev_ixT ha hb h (atI_at0 h0 h1)
theorem ev_lenL {p : Addr} {xs : List V} (ha : Ev ta σ H (.ref p)) (h : SqL K H p xs) : Ev (tCB (rLenS K) (tCons ta tNil)) σ H (.int (xs.length : Int)) := ev_len ha h
theorem ev_lenT {p : Addr} {xs : List V} (ha : Ev ta σ H (.ref p)) (h : SqT K H p xs) : Ev (tCB (rLenS K) (tCons ta tNil)) σ H (.int (xs.length : Int)) :=
  fun H1 e Q q => ha H1 e _ fun H2 e2 => ⟨p, xs, rfl, .inr (ex_t (e.trans e2) h), q H2 e2⟩
theorem ev_lenLI {p : Addr} {ns : List Int} (ha : Ev ta σ H (.ref p)) (h : SqL K H p (ns.map V.int)) : Ev (tCB (rLenS K) (tCons ta tNil)) σ H (.int (ns.length : Int)) := by
  have := ev_lenL ha h
  rwa [List.length_map] at this
theorem ev_lenTI {p : Addr} {ns : List Int} (ha : Ev ta σ H (.ref p)) (h : SqT K H p (ns.map V.int)) : Ev (tCB (rLenS K) (tCons ta tNil)) σ H (.int (ns.length : Int)) := by
  have := ev_lenT ha h
  rwa [List.length_map] at this
theorem ev_lenLP {n : Nat} {P : Nat → V → Hp → Prop} (ha : EvLP ta σ H n P) : Ev (tCB (rLenS K) (tCons ta tNil)) σ H (.int (n : Int)) :=
  fun H1 e Q q => ha H1 e _ fun p H2 vs _ e2 h2 hl _ => ⟨p, vs, rfl, .inl (sq_of h2), by rw [hl]; exact q H2 e2⟩
theorem ev_sumL {p : Addr} {ns : List Int} (ha : Ev ta σ H (.ref p)) (h : SqL K H p (ns.map V.int)) : Ev (tCB (rSum K) (tCons ta tNil)) σ H (.int ns.sum) :=
  fun H1 e Q q => ha H1 e _ fun H2 e2 => ⟨p, ns, rfl, ex_l (e.trans e2) h, q H2 e2⟩
theorem ev_sumN {ns : List Int} (ha : EvL ta σ H (ns.map V.int)) : Ev (tCB (rSum K) (tCons ta tNil)) σ H (.int ns.sum) :=
  fun H1 e Q q => ha H1 e _ fun p H2 _ e2 h2 => ⟨p, ns, rfl, sq_of h2, q H2 e2⟩
def rMin2 : List V → Hp → VK → Prop := fun xs H Q => ∃ i j, xs = [.int i, .int j] ∧ Q (.int (if j < i then j else i)) H
theorem ev_min2 {i j : Int} (ha : Ev ta σ H (.int i)) (hb : Ev tb σ H (.int j)) : Ev (tCB rMin2 (tCons ta (tCons tb tNil))) σ H (.int (if j < i then j else i)) :=
  fun H1 e Q q => ha H1 e _ fun H2 e2 => hb H2 (e.trans e2) _ fun H3 e3 => ⟨i, j, rfl, q H3 (e2.trans e3)⟩
def rInt1 : List V → Hp → VK → Prop := fun xs H Q => (∃ i, xs = [.int i] ∧ Q (.int i) H) ∨ ∃ k, xs = [.bl k] ∧ Q (.int (if k then 1 else 0)) H
theorem ev_intB {k : Bool} (ha : Ev ta σ H (.bl k)) : Ev (tCB rInt1 (tCons ta tNil)) σ H (.int (if k then 1 else 0)) :=
  fun H1 e Q q => ha H1 e _ fun H2 e2 => .inr ⟨k, rfl, q H2 e2⟩
def rTupS (K : PySem.W.Frag) : List V → Hp → VK → Prop := fun xs H Q => ∃ p ys, xs = [.ref p] ∧ ((SqL K H p ys ∧ ∀ l, H l = none → Q (.ref l) (upd H l (.tup ys))) ∨ (SqT K H p ys ∧ Q (.ref p) H))
theorem eu_tupL {xs : List V} (ha : EvL ta σ H xs) : EvU (tCB (rTupS K) (tCons ta tNil)) σ H xs :=
  fun H1 e Q q => ha H1 e _ fun p H2 hp e2 h2 => ⟨p, xs, rfl, .inl ⟨sq_of h2, fun l hl => q l _ (fresh_back e2 hl) (e2.trans (Ex.new hl)) upd_same⟩⟩
theorem eu_tupV {p : Addr} {xs : List V} (ha : Ev ta σ H (.ref p)) (h : SqL K H p xs) : EvU (tCB (rTupS K) (tCons ta tNil)) σ H xs :=
  fun H1 e Q q => ha H1 e _ fun H2 e2 => ⟨p, xs, rfl, .inl ⟨ex_l (e.trans e2) h, fun l hl => q l _ (fresh_back e2 hl) (e2.trans (Ex.new hl)) upd_same⟩⟩
theorem eu_tupT {p : Addr} {xs : List V} (ha : Ev ta σ H (.ref p)) (h : SqT K H p xs) : Ev (tCB (rTupS K) (tCons ta tNil)) σ H (.ref p) :=
  fun H1 e Q q => ha H1 e _ fun H2 e2 => ⟨p, xs, rfl, .inr ⟨ex_t (e.trans e2) h, q H2 e2⟩⟩
theorem eu_rev {p : Addr} {xs : List V} (ha : Ev ta σ H (.ref p)) (h : SqL K H p xs) : EvU (RT.tTupRev K ta) σ H xs.reverse :=
  fun H1 e Q q => ha H1 e _ fun H2 e2 => ⟨p, xs, rfl, ex_l (e.trans e2) h, fun l hl => q l _ (fresh_back e2 hl) (e2.trans (Ex.new hl)) upd_same⟩
theorem el_listT {p : Addr} {xs : List V} (ha : Ev ta σ H (.ref p)) (h : SqT K H p xs) : EvL (tCB (rListS K) (tCons ta tNil)) σ H xs :=
  fun H1 e Q q => ha H1 e _ fun H2 e2 => ⟨p, xs, rfl, .inr (ex_t (e.trans e2) h), fun l hl => q l _ (fresh_back e2 hl) (e2.trans (Ex.new hl)) upd_same⟩
/-- a tuple made of a list of things -/
def TupP (K : PySem.W.Frag) (n : Nat) (P : Nat → V → Hp → Prop) (v : V) (H : Hp) : Prop := ∃ p vs, v = .ref p ∧ SqT K H p vs ∧ vs.length = n ∧ ∀ (i : Nat) (u : V), vs[i]? = some u → P i u H
theorem ep_tupLP {n : Nat} {P : Nat → V → Hp → Prop} (m : ∀ i, Mono (P i)) (ha : EvLP ta σ H n P) : EvP (tCB (rTupS K) (tCons ta tNil)) σ H (TupP K n P) :=
  fun H1 e Q q => ha H1 e _ fun p H2 vs _ e2 h2 hl hP => ⟨p, vs, rfl, .inl ⟨sq_of h2, fun l hl2 => q _ _ (e2.trans (Ex.new hl2)) ⟨l, vs, rfl, st_of upd_same, hl, fun i u hu => m i u _ _ (Ex.new hl2) (hP i u hu)⟩⟩⟩

/-! ### comprehensions -/
theorem given_all (n : Nat) (v : Nat → V) : given n (fun _ => true) v = (List.range n).map v := by
  unfold given
  rw [List.filter_eq_self.mpr (fun _ _ => rfl)]
theorem el_mapR {ta : TA} {j : Nat} {vs : List Nat} {n : Int} (v : Nat → V) (h : EvA ta σ H [.int n]) (hn : 0 ≤ n ∧ n ≤ 40000) (hw : ∀ x, wipe ((wipe σ vs).set j (some x)) vs = wipe σ vs)
    (he : ∀ (i : Nat), (i : Int) < n → Ev te ((wipe σ vs).set j (some (.int (i : Int)))) H (v i)) : EvL (tLc (iRng1 ta) (gName j) tYes te vs) σ H ((List.range n.toNat).map v) := by
  rw [← given_all]
  exact el_lcR1 _ v h hn hw (fun _ _ _ _ => et_yes) (fun i H1 e hi _ => (he i hi).mono e)
theorem given_map (xs : List V) (f : Nat → Bool) (v : Nat → V) : (given xs.length f v).length ≤ xs.length := given_len _ f v
/-- what stands besides lists -/
def ExI (H H' : Hp) : Prop := ∀ b o, H b = some o → (∀ xs, o ≠ .lst xs) → H' b = some o
theorem ExI.of (e : Ex H H') : ExI H H' := fun b o h _ => e b o h
theorem ExI.refl : ExI H H := fun _ _ h _ => h
theorem ExI.trans {H1 H2 H3 : Hp} (a : ExI H1 H2) (b : ExI H2 H3) : ExI H1 H3 := fun c o h n => b c o (a c o h n) n
theorem ExI.upd {l : Addr} {xs ys : List V} (h : H l = some (.lst xs)) : ExI H (upd H l (.lst ys)) := fun b o hb n => by
  rw [upd_ne (show b ≠ l from fun e => by rw [e, h] at hb; exact n xs (Option.some.inj hb).symm)]
  exact hb
theorem ExI.upd' {l : Addr} {xs ys : List V} (e : ExI H H') (h : H' l = some (.lst xs)) : ExI H (L2.upd H' l (.lst ys)) := e.trans (ExI.upd h)
def Imm (P : V → Hp → Prop) : Prop := ∀ v H H', ExI H H' → P v H → P v H'
theorem Imm.mono {P : V → Hp → Prop} (m : Imm P) : Mono P := fun v H H' e p => m v H H' (ExI.of e) p
theorem ExI.rd {a : Addr} {u : HO} (e : ExI H H') (h : Rd H a u) (n : ∀ xs, u ≠ .lst xs) : Rd H' a u := by
  rcases h with h | ⟨o, h⟩
  · exact .inl (e a u h n)
  · exact .inr ⟨o, e a _ h (by intro xs z; cases z)⟩
theorem ExI.seqT {a : Addr} {xs : List V} (e : ExI H H') (h : SqT K H a xs) : SqT K H' a xs := by
  rcases h with h | h
  · exact .inl (e.rd h (by intro ys z; cases z))
  · exact .inr h
def CwP (H : Hp) (P : Nat → V → Hp → Prop) (Dl : Addr) (i : Nat) (H' : Hp) : Prop := H Dl = none ∧ Ex H H' ∧ ∃ vs, H' Dl = some (.lst vs) ∧ vs.length = i ∧ ∀ (k : Nat) (v : V), vs[k]? = some v → P k v H'
theorem cwP_turn {H H' : Hp} {P : Nat → V → Hp → Prop} (m : ∀ i, Imm (P i)) {Dl : Addr} {i : Nat} {σ2 : L2.St} (p : CwP H P Dl i H') (hi : i < 50000) (he : EvP te σ2 H (P i)) :
    te σ2 H' fun y H4 => ∃ acc, H4 Dl = some (.lst acc) ∧ acc.length < sizeLine ∧ CwP H P Dl (i + 1) (upd H4 Dl (.lst (acc ++ [y]))) := by
  obtain ⟨p1, p2, vs, p3, p4, p5⟩ := p
  refine he H' p2 _ fun y H4 e4 hy => ⟨vs, e4 Dl _ p3, sz_lt (by omega), p1, Ex.mut (p2.trans e4) p1, vs ++ [y], upd_same, by rw [List.length_append, p4]; rfl, fun k v hk => ?_⟩
  have hu : ExI H4 (upd H4 Dl (.lst (vs ++ [y]))) := ExI.upd (e4 Dl _ p3)
  rcases Nat.lt_or_ge k vs.length with h | h
  · rw [List.getElem?_append_left h] at hk
    exact m k v _ _ hu (m k v _ _ (ExI.of e4) (p5 k v hk))
  · rw [List.getElem?_append_right h] at hk
    have hk0 : k = i := by
      have := (List.getElem?_eq_some_iff.mp hk).1
      simp only [List.length_singleton] at this
      omega
    subst hk0
    have hv : v = y := by
      rw [p4, Nat.sub_self] at hk
      exact (Option.some.inj hk).symm
    subst hv
    exact m k v _ _ hu hy
theorem elp_R {ta : TA} {j : Nat} {vs : List Nat} {n : Int} {P : Nat → V → Hp → Prop} (m : ∀ i, Imm (P i)) (h : EvA ta σ H [.int n]) (hn : 0 ≤ n ∧ n ≤ 40000) (hw : ∀ x, wipe ((wipe σ vs).set j (some x)) vs = wipe σ vs)
    (he : ∀ (i : Nat), (i : Int) < n → EvP te ((wipe σ vs).set j (some (.int (i : Int)))) H (P i)) : EvLP (tLc (iRng1 ta) (gName j) tYes te vs) σ H n.toNat P := fun H0 e Q q => h H0 e _ fun H1 e1 => ⟨n, rfl, by omega, by omega, fun Dl hD =>
  lc_range (lo := 0) (n := n.toNat) (CwP H1 P Dl) ⟨hD, Ex.new hD, [], upd_same, rfl, fun k v hk => by cases hk⟩ (fun i H' hi p => by
    have e0 : (0 : Int) + (i : Int) = (i : Int) := Int.zero_add _
    show wipe ((wipe σ vs).set j (some (.int ((0 : Int) + (i : Int))))) vs = wipe σ vs ∧ te ((wipe σ vs).set j (some (.int ((0 : Int) + (i : Int))))) H' fun y H4 => ∃ acc, H4 Dl = some (.lst acc) ∧ acc.length < sizeLine ∧ CwP H1 P Dl (i + 1) (upd H4 Dl (.lst (acc ++ [y])))
    rw [e0]
    exact ⟨hw _, cwP_turn m p (by omega) ((he i (by omega)).mono (e.trans e1))⟩) (fun H' ⟨p1, p2, ws, p3, p4, p5⟩ => q Dl H' ws (fresh_back e1 p1) (e1.trans p2) p3 p4 p5)⟩
theorem elp_T {a : Addr} {xs : List V} {tl : TE} {j : Nat} {vs : List Nat} {P : Nat → V → Hp → Prop} (m : ∀ i, Imm (P i)) (h : Ev tl σ H (.ref a)) (hx : SqT K H a xs) (hz : xs.length ≤ 40000) (hw : ∀ x, wipe ((wipe σ vs).set j (some x)) vs = wipe σ vs)
    (he : ∀ (i : Nat) (x : V), xs[i]? = some x → EvP te ((wipe σ vs).set j (some x)) H (P i)) : EvLP (tLc (iTup K tl) (gName j) tYes te vs) σ H xs.length P := fun H0 e Q q => h H0 e _ fun H1 e1 => ⟨a, rfl, ⟨xs, ex_t (e.trans e1) hx⟩, fun Dl hD =>
  lc_tup (xs := xs) (CwP H1 P Dl) ⟨hD, Ex.new hD, [], upd_same, rfl, fun k v hk => by cases hk⟩ (fun i H' _ p => ex_t ((e.trans e1).trans p.2.1) hx)
    (fun i x H' hi p => ⟨hw x, cwP_turn m p (by have := (List.getElem?_eq_some_iff.mp hi).1; omega) ((he i x hi).mono (e.trans e1))⟩) (fun H' ⟨p1, p2, ws, p3, p4, p5⟩ => q Dl H' ws (fresh_back e1 p1) (e1.trans p2) p3 p4 p5)⟩
theorem elp_L {a : Addr} {xs : List V} {tl : TE} {j : Nat} {vs : List Nat} {P : Nat → V → Hp → Prop} (m : ∀ i, Imm (P i)) (h : Ev tl σ H (.ref a)) (hx : SqL K H a xs) (hz : xs.length ≤ 40000) (hw : ∀ x, wipe ((wipe σ vs).set j (some x)) vs = wipe σ vs)
    (he : ∀ (i : Nat) (x : V), xs[i]? = some x → EvP te ((wipe σ vs).set j (some x)) H (P i)) : EvLP (tLc (iList K tl) (gName j) tYes te vs) σ H xs.length P := fun H0 e Q q => h H0 e _ fun H1 e1 => ⟨a, rfl, ⟨xs, ex_l (e.trans e1) hx⟩, fun Dl hD =>
  lc_list (xs := xs) (CwP H1 P Dl) ⟨hD, Ex.new hD, [], upd_same, rfl, fun k v hk => by cases hk⟩ (fun i H' _ p => ex_l ((e.trans e1).trans p.2.1) hx)
    (fun i x H' hi p => ⟨hw x, cwP_turn m p (by have := (List.getElem?_eq_some_iff.mp hi).1; omega) ((he i x hi).mono (e.trans e1))⟩) (fun H' ⟨p1, p2, ws, p3, p4, p5⟩ => q Dl H' ws (fresh_back e1 p1) (e1.trans p2) p3 p4 p5)⟩
/-- values over a tuple, with a test -/
theorem el_lcT {a : Addr} {xs : List V} {tl : TE} {j : Nat} {vs : List Nat} (f : Nat → Bool) (v : Nat → V) (h : Ev tl σ H (.ref a)) (hx : SqT K H a xs) (hz : xs.length ≤ 40000) (hw : ∀ x, wipe ((wipe σ vs).set j (some x)) vs = wipe σ vs)
    (ht : ∀ (i : Nat) (x : V) H1, Ex H H1 → xs[i]? = some x → EvT t ((wipe σ vs).set j (some x)) H1 (f i)) (he : ∀ (i : Nat) (x : V) H1, Ex H H1 → xs[i]? = some x → f i = true → Ev te ((wipe σ vs).set j (some x)) H1 (v i)) :
    EvL (tLc (iTup K tl) (gName j) t te vs) σ H (given xs.length f v) := fun H0 e Q q => h H0 e _ fun H1 e1 => ⟨a, rfl, ⟨xs, ex_t (e.trans e1) hx⟩, fun Dl hD =>
  lc_tup (xs := xs) (Cw H1 f v Dl) ⟨hD, Ex.new hD, upd_same⟩ (fun i H' _ p => ex_t ((e.trans e1).trans p.2.1) hx) (fun i x H' hi p => ⟨hw x, cw_turn p (by have := (List.getElem?_eq_some_iff.mp hi).1; omega) (ht i x H1 (e.trans e1) hi) (fun hf => he i x H1 (e.trans e1) hi hf)⟩)
    (fun H' p => q Dl H' (fresh_back e1 p.1) (e1.trans p.2.1) p.2.2)⟩
theorem given_none (n : Nat) (v : Nat → V) : given n (fun _ => false) v = [] := by
  unfold given
  rw [List.filter_eq_nil_iff.mpr (fun _ _ => by simp)]
  rfl
theorem map_at0 (ns : List Int) (g : Int → V) : (List.range ns.length).map (fun i : Nat => g (at0 ns (i : Int))) = ns.map g := by
  apply List.ext_getElem
  · simp
  · intro i h1 h2
    simp only [List.length_map] at h2
    simp [at0, h2]
theorem at0_of {ns : List Int} {i : Nat} {x : V} (h : (ns.map V.int)[i]? = some x) : x = .int (at0 ns (i : Int)) ∧ i < ns.length := by
  have hl := (List.getElem?_eq_some_iff.mp h).1
  rw [List.length_map] at hl
  rw [List.getElem?_map, List.getElem?_eq_getElem hl] at h
  refine ⟨?_, hl⟩
  rw [← Option.some.inj h]
  unfold at0
  rw [List.getD_eq_getElem?_getD, Int.toNat_natCast, List.getElem?_eq_getElem hl]
  rfl
theorem el_mapT {a : Addr} {ns : List Int} {tl : TE} {j : Nat} {vs : List Nat} (g : Int → V) (h : Ev tl σ H (.ref a)) (hx : SqT K H a (ns.map V.int)) (hz : ns.length ≤ 40000) (hw : ∀ x, wipe ((wipe σ vs).set j (some x)) vs = wipe σ vs)
    (he : ∀ (x : Int), x ∈ ns → Ev te ((wipe σ vs).set j (some (.int x))) H (g x)) : EvL (tLc (iTup K tl) (gName j) tYes te vs) σ H (ns.map g) := by
  have := el_lcT (t := tYes) (te := te) (fun _ => true) (fun i : Nat => g (at0 ns (i : Int))) h hx (by rw [List.length_map]; exact hz) hw (fun _ _ _ _ _ => et_yes) (fun i x H1 e hi _ => by
    obtain ⟨rfl, hl⟩ := at0_of hi
    refine (he _ ?_).mono e
    unfold at0
    rw [List.getD_eq_getElem?_getD, Int.toNat_natCast, List.getElem?_eq_getElem hl]
    exact List.getElem_mem hl)
  rwa [given_all, List.length_map, map_at0] at this
theorem el_mapL {a : Addr} {ns : List Int} {tl : TE} {j : Nat} {vs : List Nat} (g : Int → V) (h : Ev tl σ H (.ref a)) (hx : SqL K H a (ns.map V.int)) (hz : ns.length ≤ 40000) (hw : ∀ x, wipe ((wipe σ vs).set j (some x)) vs = wipe σ vs)
    (he : ∀ (x : Int), x ∈ ns → Ev te ((wipe σ vs).set j (some (.int x))) H (g x)) : EvL (tLc (iList K tl) (gName j) tYes te vs) σ H (ns.map g) := by
  have := el_lcL (t := tYes) (te := te) (fun _ => true) (fun i : Nat => g (at0 ns (i : Int))) h hx (by rw [List.length_map]; exact hz) hw (fun _ _ _ _ _ => et_yes) (fun i x H1 e hi _ => by
    obtain ⟨rfl, hl⟩ := at0_of hi
    refine (he _ ?_).mono e
    unfold at0
    rw [List.getD_eq_getElem?_getD, Int.toNat_natCast, List.getElem?_eq_getElem hl]
    exact List.getElem_mem hl)
  rwa [given_all, List.length_map, map_at0] at this
end

/-! ### statements over every further heap -/
def Go (t : TS) (D : Ends) (σ : L2.St) (H : Hp) : Prop := ∀ H1, Ex H H1 → t D σ H1
def GoN (D : Ends) (σ : L2.St) (H : Hp) : Prop := ∀ H1, Ex H H1 → D.nx σ H1
section
variable {K : PySem.W.Frag} {σ : L2.St} {H H' : Hp} {ta tb te tx : TE} {t u : TT} {x y z v : V} {r : R2} {P : V → Hp → Prop} {D : Ends} {tu tw tz : TS} {g : TG}
theorem Go.at (h : Go tu D σ H) : tu D σ H := h H (Ex.refl H)
theorem Go.mono (e : Ex H H') (h : Go tu D σ H) : Go tu D σ H' := fun H1 e1 => h H1 (e.trans e1)
theorem go_next (h : GoN D σ H) : Go tNext D σ H := h
theorem gn_of (h : ∀ H1, Ex H H1 → D.nx σ H1) : GoN D σ H := h
theorem go_asg {i : Nat} (h : Ev te σ H v) (k : Go tz D (σ.set i (some v)) H) : Go (tSeq (tAsg te (gName i)) tz) D σ H := fun H1 e => q_asg (h.mono e) fun H2 e2 => k H2 (e.trans e2)
theorem gl_asg {i : Nat} (h : Ev te σ H v) (k : GoN D (σ.set i (some v)) H) : Go (tAsg te (gName i)) D σ H := fun H1 e => s_asg (h.mono e) fun H2 e2 => k H2 (e.trans e2)
theorem go_asgL {i : Nat} {xs : List V} (h : EvL te σ H xs) (k : ∀ p H1, H p = none → Ex H H1 → H1 p = some (.lst xs) → Go tz D (σ.set i (some (.ref p))) H1) : Go (tSeq (tAsg te (gName i)) tz) D σ H :=
  fun H1 e => q_asgL (h.mono e) fun p H2 hp e2 h2 => k p H2 (fresh_back e hp) (e.trans e2) h2 H2 (Ex.refl H2)
theorem gl_asgL {i : Nat} {xs : List V} (h : EvL te σ H xs) (k : ∀ p H1, H p = none → Ex H H1 → H1 p = some (.lst xs) → GoN D (σ.set i (some (.ref p))) H1) : Go (tAsg te (gName i)) D σ H :=
  fun H1 e => s_asgL (h.mono e) fun p H2 hp e2 h2 => k p H2 (fresh_back e hp) (e.trans e2) h2 H2 (Ex.refl H2)
theorem go_asgU {i : Nat} {xs : List V} (h : EvU te σ H xs) (k : ∀ p H1, H p = none → Ex H H1 → H1 p = some (.tup xs) → Go tz D (σ.set i (some (.ref p))) H1) : Go (tSeq (tAsg te (gName i)) tz) D σ H :=
  fun H1 e => q_asgU (EvU.mono e h) fun p H2 hp e2 h2 => k p H2 (fresh_back e hp) (e.trans e2) h2 H2 (Ex.refl H2)
theorem gl_asgU {i : Nat} {xs : List V} (h : EvU te σ H xs) (k : ∀ p H1, H p = none → Ex H H1 → H1 p = some (.tup xs) → GoN D (σ.set i (some (.ref p))) H1) : Go (tAsg te (gName i)) D σ H :=
  fun H1 e => s_asgU (EvU.mono e h) fun p H2 hp e2 h2 => k p H2 (fresh_back e hp) (e.trans e2) h2 H2 (Ex.refl H2)
theorem go_asgP {i : Nat} (h : EvP te σ H P) (k : ∀ v H1, Ex H H1 → P v H1 → Go tz D (σ.set i (some v)) H1) : Go (tSeq (tAsg te (gName i)) tz) D σ H :=
  fun H1 e => h H1 e _ fun v H2 e2 p => k v H2 (e.trans e2) p H2 (Ex.refl H2)
theorem gl_asgP {i : Nat} (h : EvP te σ H P) (k : ∀ v H1, Ex H H1 → P v H1 → GoN D (σ.set i (some v)) H1) : Go (tAsg te (gName i)) D σ H :=
  fun H1 e => h H1 e _ fun v H2 e2 p => k v H2 (e.trans e2) p H2 (Ex.refl H2)
theorem go_if {b : Bool} (h : EvT t σ H b) (h1 : b = true → Go tu { D with nx := tz D } σ H) (h2 : b = false → Go tw { D with nx := tz D } σ H) : Go (tSeq (tIfS t tu tw) tz) D σ H :=
  fun H1 e => q_if (h.mono e) (fun hb H2 e2 => h1 hb H2 (e.trans e2)) (fun hb H2 e2 => h2 hb H2 (e.trans e2))
theorem gl_if {b : Bool} (h : EvT t σ H b) (h1 : b = true → Go tu D σ H) (h2 : b = false → Go tw D σ H) : Go (tIfS t tu tw) D σ H :=
  fun H1 e => s_if (h.mono e) (fun hb H2 e2 => h1 hb H2 (e.trans e2)) (fun hb H2 e2 => h2 hb H2 (e.trans e2))
/-- if, its test a proposition's -/
theorem go_ifd {p : Prop} [Decidable p] (h : EvT t σ H (decide p)) (h1 : p → Go tu { D with nx := tz D } σ H) (h2 : ¬ p → Go tw { D with nx := tz D } σ H) : Go (tSeq (tIfS t tu tw) tz) D σ H :=
  go_if h (fun e => h1 (of_decide_eq_true e)) (fun e => h2 (of_decide_eq_false e))
theorem gl_ifd {p : Prop} [Decidable p] (h : EvT t σ H (decide p)) (h1 : p → Go tu D σ H) (h2 : ¬ p → Go tw D σ H) : Go (tIfS t tu tw) D σ H :=
  gl_if h (fun e => h1 (of_decide_eq_true e)) (fun e => h2 (of_decide_eq_false e))
theorem go_ret (h : Ev te σ H v) (k : ∀ H1, Ex H H1 → D.rt v H1) : Go (tRet te) D σ H := fun H1 e => s_ret (h.mono e) fun H2 e2 => k H2 (e.trans e2)
theorem go_retL {xs : List V} (h : EvL te σ H xs) (k : ∀ p H1, H p = none → Ex H H1 → H1 p = some (.lst xs) → D.rt (.ref p) H1) : Go (tRet te) D σ H := fun H1 e => s_retL (h.mono e) fun p H2 hp e2 h2 => k p H2 (fresh_back e hp) (e.trans e2) h2
theorem go_retU {xs : List V} (h : EvU te σ H xs) (k : ∀ p H1, H p = none → Ex H H1 → H1 p = some (.tup xs) → D.rt (.ref p) H1) : Go (tRet te) D σ H := fun H1 e => s_retU (EvU.mono e h) fun p H2 hp e2 h2 => k p H2 (fresh_back e hp) (e.trans e2) h2
theorem go_retP (h : EvP te σ H P) (k : ∀ v H1, Ex H H1 → P v H1 → D.rt v H1) : Go (tRet te) D σ H := fun H1 e => h H1 e _ fun v H2 e2 p => k v H2 (e.trans e2) p
theorem go_drop (h : Ev te σ H v) (k : Go tz D σ H) : Go (tSeq (tDrop te) tz) D σ H := fun H1 e => q_drop (h.mono e) fun H2 e2 => k H2 (e.trans e2)
theorem go_app {l : Addr} {xs : List V} (hl : H l = some (.lst xs)) (ha : Ev ta σ H (.ref l)) (h : Ev te σ H v) (hz : xs.length < 100000) (k : ∀ H1, Ex H H1 → Go tz D σ (upd H1 l (.lst (xs ++ [v])))) :
    Go (tSeq (tDrop (tBM K "list" rAppend ta (tCons te tNil))) tz) D σ H := fun H1 e => q_app (e l _ hl) (ha.mono e) (h.mono e) hz fun H2 e2 => k H2 (e.trans e2) _ (Ex.refl _)
theorem gl_app {l : Addr} {xs : List V} (hl : H l = some (.lst xs)) (ha : Ev ta σ H (.ref l)) (h : Ev te σ H v) (hz : xs.length < 100000) (k : ∀ H1, Ex H H1 → GoN D σ (upd H1 l (.lst (xs ++ [v])))) :
    Go (tDrop (tBM K "list" rAppend ta (tCons te tNil))) D σ H := fun H1 e => s_app (e l _ hl) (ha.mono e) (h.mono e) hz fun H2 e2 => k H2 (e.trans e2) _ (Ex.refl _)
theorem gl_appP {l : Addr} {xs : List V} (hl : H l = some (.lst xs)) (ha : Ev ta σ H (.ref l)) (h : EvP te σ H P) (hz : xs.length < 100000) (k : ∀ v H1, Ex H H1 → P v H1 → GoN D σ (upd H1 l (.lst (xs ++ [v])))) :
    Go (tDrop (tBM K "list" rAppend ta (tCons te tNil))) D σ H := fun H1 e => ha H1 e _ fun H2 e2 => ⟨.inl ⟨rfl, xs, sq_of (e2 l _ (e l _ hl))⟩, h H2 (e.trans e2) _ fun v H3 e3 p =>
      ⟨l, xs, v, rfl, rfl, e3 l _ (e2 l _ (e l _ hl)), sz_lt hz, k v H3 ((e.trans e2).trans e3) p _ (Ex.refl _)⟩⟩
theorem go_appP {l : Addr} {xs : List V} (hl : H l = some (.lst xs)) (ha : Ev ta σ H (.ref l)) (h : EvP te σ H P) (hz : xs.length < 100000) (k : ∀ v H1, Ex H H1 → P v H1 → Go tz D σ (upd H1 l (.lst (xs ++ [v])))) :
    Go (tSeq (tDrop (tBM K "list" rAppend ta (tCons te tNil))) tz) D σ H := gl_appP (D := { D with nx := tz D }) hl ha h hz k
theorem go_setL {l : Addr} {xs : List V} {i : Int} (hl : H l = some (.lst xs)) (h : Ev te σ H v) (ho : Ev ta σ H (.ref l)) (hi : Ev tb σ H (.int i)) (h0 : 0 ≤ i) (h1 : i < (xs.length : Int)) (k : ∀ H1, Ex H H1 → Go tz D σ (upd H1 l (.lst (xs.set i.toNat v)))) :
    Go (tSeq (tAsg te (gSub ta tb rSetL)) tz) D σ H := by
  obtain ⟨j, rfl⟩ := Int.eq_ofNat_of_zero_le h0
  exact fun H1 e => q_setL (e l _ hl) (h.mono e) (ho.mono e) (hi.mono e) (by omega) fun H2 e2 => k H2 (e.trans e2) _ (Ex.refl _)
theorem gl_setL {l : Addr} {xs : List V} {i : Int} (hl : H l = some (.lst xs)) (h : Ev te σ H v) (ho : Ev ta σ H (.ref l)) (hi : Ev tb σ H (.int i)) (h0 : 0 ≤ i) (h1 : i < (xs.length : Int)) (k : ∀ H1, Ex H H1 → GoN D σ (upd H1 l (.lst (xs.set i.toNat v)))) :
    Go (tAsg te (gSub ta tb rSetL)) D σ H := by
  obtain ⟨j, rfl⟩ := Int.eq_ofNat_of_zero_le h0
  exact fun H1 e => s_setL (e l _ hl) (h.mono e) (ho.mono e) (hi.mono e) (by omega) fun H2 e2 => k H2 (e.trans e2) _ (Ex.refl _)
theorem go_forR1 {ta : TA} {j : Nat} {n : Int} (h : EvA ta σ H [.int n]) (hn : 0 ≤ n ∧ n ≤ 100000) (Pv : Nat → L2.St → Hp → Prop) (h0 : ∀ H1, Ex H H1 → Pv 0 σ H1)
    (hs : ∀ (i : Nat) σ' H', (i : Int) < n → Pv i σ' H' → Go tu { D with nx := Pv (i + 1), ct := Pv (i + 1), bk := tz D } (σ'.set j (some (.int (i : Int)))) H') (hd : ∀ σ' H', Pv n.toNat σ' H' → Go tz D σ' H') : Go (tSeq (tFor (iRng1 ta) (gName j) tu) tz) D σ H :=
  fun H1 e => q_forR1 (h.mono e) hn Pv (fun H2 e2 => h0 H2 (e.trans e2)) (fun i σ' H' hi p => (hs i σ' H' hi p).at) (fun σ' H' p => (hd σ' H' p).at)
theorem gl_forR1 {ta : TA} {j : Nat} {n : Int} (h : EvA ta σ H [.int n]) (hn : 0 ≤ n ∧ n ≤ 100000) (Pv : Nat → L2.St → Hp → Prop) (h0 : ∀ H1, Ex H H1 → Pv 0 σ H1)
    (hs : ∀ (i : Nat) σ' H', (i : Int) < n → Pv i σ' H' → Go tu { D with nx := Pv (i + 1), ct := Pv (i + 1), bk := D.nx } (σ'.set j (some (.int (i : Int)))) H') (hd : ∀ σ' H', Pv n.toNat σ' H' → GoN D σ' H') : Go (tFor (iRng1 ta) (gName j) tu) D σ H :=
  fun H1 e => s_forR1 (h.mono e) hn Pv (fun H2 e2 => h0 H2 (e.trans e2)) (fun i σ' H' hi p => (hs i σ' H' hi p).at) (fun σ' H' p => hd σ' H' p H' (Ex.refl H'))
theorem go_forT {a : Addr} {xs : List V} {tl : TE} {j : Nat} (h : Ev tl σ H (.ref a)) (hx : SqT K H a xs) (Pv : Nat → L2.St → Hp → Prop) (h0 : ∀ H1, Ex H H1 → Pv 0 σ H1) (hl : ∀ i σ' H', i ≤ xs.length → Pv i σ' H' → SqT K H' a xs)
    (hs : ∀ i x σ' H', xs[i]? = some x → Pv i σ' H' → Go tu { D with nx := Pv (i + 1), ct := Pv (i + 1), bk := tz D } (σ'.set j (some x)) H') (hd : ∀ σ' H', Pv xs.length σ' H' → Go tz D σ' H') : Go (tSeq (tFor (iTup K tl) (gName j) tu) tz) D σ H :=
  fun H1 e => q_forT (h.mono e) (ex_t e hx) Pv (fun H2 e2 => h0 H2 (e.trans e2)) hl (fun i x σ' H' hi p => (hs i x σ' H' hi p).at) (fun σ' H' p => (hd σ' H' p).at)
theorem go_forL {a : Addr} {xs : List V} {tl : TE} {j : Nat} (h : Ev tl σ H (.ref a)) (hx : SqL K H a xs) (Pv : Nat → L2.St → Hp → Prop) (h0 : ∀ H1, Ex H H1 → Pv 0 σ H1) (hl : ∀ i σ' H', i ≤ xs.length → Pv i σ' H' → SqL K H' a xs)
    (hs : ∀ i x σ' H', xs[i]? = some x → Pv i σ' H' → Go tu { D with nx := Pv (i + 1), ct := Pv (i + 1), bk := tz D } (σ'.set j (some x)) H') (hd : ∀ σ' H', Pv xs.length σ' H' → Go tz D σ' H') : Go (tSeq (tFor (iList K tl) (gName j) tu) tz) D σ H :=
  fun H1 e => q_forL (h.mono e) (ex_l e hx) Pv (fun H2 e2 => h0 H2 (e.trans e2)) hl (fun i x σ' H' hi p => (hs i x σ' H' hi p).at) (fun σ' H' p => (hd σ' H' p).at)
/-- the loop inside another loop: the last statement of a body -/
theorem gl_forT {a : Addr} {xs : List V} {tl : TE} {j : Nat} (h : Ev tl σ H (.ref a)) (hx : SqT K H a xs) (Pv : Nat → L2.St → Hp → Prop) (h0 : ∀ H1, Ex H H1 → Pv 0 σ H1) (hl : ∀ i σ' H', i ≤ xs.length → Pv i σ' H' → SqT K H' a xs)
    (hs : ∀ i x σ' H', xs[i]? = some x → Pv i σ' H' → Go tu { D with nx := Pv (i + 1), ct := Pv (i + 1), bk := D.nx } (σ'.set j (some x)) H') (hd : ∀ σ' H', Pv xs.length σ' H' → GoN D σ' H') : Go (tFor (iTup K tl) (gName j) tu) D σ H :=
  fun H1 e => s_forT (h.mono e) (ex_t e hx) Pv (fun H2 e2 => h0 H2 (e.trans e2)) hl (fun i x σ' H' hi p => (hs i x σ' H' hi p).at) (fun σ' H' p => hd σ' H' p H' (Ex.refl H'))
theorem go_while (W : Nat → L2.St → Hp → Prop) (m0 : Nat) (h0 : ∀ H1, Ex H H1 → W m0 σ H1)
    (hs : ∀ m σ' H', W m σ' H' → ∃ b, EvT t σ' H' b ∧ (b = true → ∃ N : L2.St → Hp → Prop, (∀ σ2 H2, N σ2 H2 → ∃ m', m' < m ∧ W m' σ2 H2) ∧ Go tu { D with nx := N, ct := N, bk := tz D } σ' H') ∧ (b = false → Go tz D σ' H')) : Go (tSeq (tWhile t tu) tz) D σ H :=
  fun H1 e => q_while W m0 (h0 H1 e) fun m σ' H' hw => by
    obtain ⟨b, hb, h1, h2⟩ := hs m σ' H' hw
    exact ⟨b, hb, fun e H2 e2 => by obtain ⟨N, hN, k⟩ := h1 e; exact ⟨N, hN, k H2 e2⟩, fun e H2 e2 => h2 e H2 e2⟩
end

/-! ### boards -/
def rowOf (w : Nat) (f : Int → Int) : List Int := (List.range w).map fun x : Nat => f (x : Int)
def mk (h w : Nat) (f : Int → Int → Int) : List (List Int) := (List.range h).map fun y : Nat => rowOf w (f (y : Int))
def RwV (K : PySem.W.Frag) (r : List Int) (v : V) (H : Hp) : Prop := ∃ a, v = .ref a ∧ SqT K H a (r.map V.int)
def BdV (K : PySem.W.Frag) (B : List (List Int)) (v : V) (H : Hp) : Prop := ∃ p vs, v = .ref p ∧ SqT K H p vs ∧ vs.length = B.length ∧ ∀ (i : Nat) (u : V) (r : List Int), vs[i]? = some u → B[i]? = some r → RwV K r u H
section
variable {K : PySem.W.Frag} {σ : L2.St} {H H' : Hp} {ta tb te tx ty : TE} {t u : TT} {x y z v : V} {B C : List (List Int)}
theorem rw_imm (r : List Int) : Imm (RwV K r) := fun v H H' e ⟨a, h, hs⟩ => ⟨a, h, e.seqT hs⟩
theorem bd_imm (B : List (List Int)) : Imm (BdV K B) := fun v H H' e ⟨p, vs, h, hs, hl, hr⟩ => ⟨p, vs, h, e.seqT hs, hl, fun i u r h1 h2 => rw_imm r u H H' e (hr i u r h1 h2)⟩
theorem BdV.up (e : Ex H H') (h : BdV K B v H) : BdV K B v H' := bd_imm B v H H' (ExI.of e) h
theorem len_mk (h w : Nat) (f : Int → Int → Int) : (mk h w f).length = h := by unfold mk; simp
theorem len_rowOf (w : Nat) (f : Int → Int) : (rowOf w f).length = w := by unfold rowOf; simp
theorem mk_get {h w : Nat} {f : Int → Int → Int} {i : Nat} (hi : i < h) : (mk h w f)[i]? = some (rowOf w (f (i : Int))) := by
  unfold mk
  rw [List.getElem?_map, List.getElem?_range hi]
  rfl
theorem at0_rowOf {w : Nat} {f : Int → Int} {i : Int} (h0 : 0 ≤ i) (h1 : i < (w : Int)) : at0 (rowOf w f) i = f i := by
  obtain ⟨j, rfl⟩ := Int.eq_ofNat_of_zero_le h0
  have hj : j < w := by omega
  unfold at0 rowOf
  rw [List.getD_eq_getElem?_getD, List.getElem?_map, Int.toNat_natCast, List.getElem?_range hj]
  rfl
theorem bd_of {h w : Nat} {f : Int → Int → Int} (hp : TupP K h (fun i => RwV K (rowOf w (f (i : Int)))) v H) : BdV K (mk h w f) v H := by
  obtain ⟨p, vs, rfl, hs, hl, hr⟩ := hp
  refine ⟨p, vs, rfl, hs, by rw [len_mk, hl], fun i u r h1 h2 => ?_⟩
  have hi : i < h := by rw [← hl]; exact (List.getElem?_eq_some_iff.mp h1).1
  rw [mk_get hi] at h2
  rw [← Option.some.inj h2]
  exact hr i u h1
theorem bd_row {i : Nat} {r : List Int} {p : Addr} {vs : List V} (hl : vs.length = B.length) (hr : ∀ (i : Nat) (u : V) (r : List Int), vs[i]? = some u → B[i]? = some r → RwV K r u H) (h : B[i]? = some r) : ∃ a, vs[i]? = some (.ref a) ∧ SqT K H a (r.map V.int) := by
  have hi : i < vs.length := by rw [hl]; exact (List.getElem?_eq_some_iff.mp h).1
  obtain ⟨a, e, hs⟩ := hr i vs[i] r (List.getElem?_eq_getElem hi) h
  exact ⟨a, by rw [List.getElem?_eq_getElem hi, e], hs⟩
/-- len(board), board[y], board[y][x] -/
theorem ev_lenB (ha : Ev ta σ H v) (hb : BdV K B v H) : Ev (tCB (rLenS K) (tCons ta tNil)) σ H (.int (B.length : Int)) := by
  obtain ⟨p, vs, rfl, hs, hl, _⟩ := hb
  rw [← hl]
  exact ev_lenT ha hs
theorem ev_lenM {h w : Nat} {f : Int → Int → Int} (ha : Ev ta σ H v) (hb : BdV K (mk h w f) v H) : Ev (tCB (rLenS K) (tCons ta tNil)) σ H (.int (h : Int)) := by
  have := ev_lenB ha hb
  rwa [len_mk] at this
theorem ep_row {h w : Nat} {f : Int → Int → Int} {i : Int} (ha : Ev ta σ H v) (hi : Ev ty σ H (.int i)) (hb : BdV K (mk h w f) v H) (h0 : 0 ≤ i) (h1 : i < (h : Int)) :
    ∃ a, Ev (tOp (rIxT K) ta ty) σ H (.ref a) ∧ SqT K H a ((rowOf w (f i)).map V.int) := by
  obtain ⟨j, rfl⟩ := Int.eq_ofNat_of_zero_le h0
  obtain ⟨p, vs, rfl, hs, hl, hr⟩ := hb
  obtain ⟨a, e, q⟩ := bd_row (p := p) hl hr (mk_get (w := w) (f := f) (show j < h by omega))
  exact ⟨a, ev_ixT ha hi hs (atI_nat e), q⟩
theorem ev_cell {h w : Nat} {f : Int → Int → Int} {i j : Int} (ha : Ev ta σ H v) (hy : Ev ty σ H (.int i)) (hx : Ev tx σ H (.int j)) (hb : BdV K (mk h w f) v H) (h0 : 0 ≤ i) (h1 : i < (h : Int)) (h2 : 0 ≤ j) (h3 : j < (w : Int)) :
    Ev (tOp (rIxT K) (tOp (rIxT K) ta ty) tx) σ H (.int (f i j)) := by
  obtain ⟨a, hr, hs⟩ := ep_row ha hy hb h0 h1
  have := ev_ixTI hr hx hs h2 (by rw [len_rowOf]; exact h3)
  rwa [at0_rowOf h2 h3] at this
/-- len(board[0]) -/
theorem ev_wide {h w : Nat} {f : Int → Int → Int} (h0 : 0 < h) (ha : Ev ta σ H v) (hi : Ev ty σ H (.int 0)) (hb : BdV K (mk h w f) v H) : Ev (tCB (rLenS K) (tCons (tOp (rIxT K) ta ty) tNil)) σ H (.int (w : Int)) := by
  obtain ⟨a, hr, hs⟩ := ep_row ha hi hb (Int.le_refl 0) (by omega)
  have := ev_lenTI hr hs
  rwa [len_rowOf] at this
/-- [.. for x in range(w)] as a tuple -/
theorem ep_rowR {w : Nat} {f : Int → Int} {n : Int} {ta : TA} {j : Nat} {vs : List Nat} (hwn : n = (w : Int)) (hn : w ≤ 40000) (h : EvA ta σ H [.int n]) (hw : ∀ x, wipe ((wipe σ vs).set j (some x)) vs = wipe σ vs)
    (he : ∀ (i : Nat), (i : Int) < w → Ev te ((wipe σ vs).set j (some (.int (i : Int)))) H (.int (f (i : Int)))) :
    EvP (tCB (rTupS K) (tCons (tLc (iRng1 ta) (gName j) tYes te vs) tNil)) σ H (RwV K (rowOf w f)) := by
  subst hwn
  refine ep_U (eu_tupL (el_mapR (fun i => V.int (f (i : Int))) h ⟨by omega, by omega⟩ hw he)) fun p H1 e hp => ⟨p, rfl, st_of ?_⟩
  rw [hp, Int.toNat_natCast]
  unfold rowOf
  rw [List.map_map]
  rfl
/-! == of boards, of lists of ints -/
def rwD (r : List Int) : PyData := .tuple (r.map PyData.int)
def bdD (B : List (List Int)) : PyData := .tuple (B.map rwD)
theorem dpI : ∀ (ns : List Int), DpAll K H (ns.map V.int) (ns.map PyData.int)
  | [] => .nil
  | n :: r => .cons (.int n) (dpI r)
theorem rw_dp {r : List Int} (h : RwV K r v H) : Dp K H v (rwD r) := by
  obtain ⟨a, rfl, hs⟩ := h
  exact .tup hs (dpI r)
theorem bd_all : ∀ {vs : List V} {B : List (List Int)}, vs.length = B.length → (∀ (i : Nat) (u : V) (r : List Int), vs[i]? = some u → B[i]? = some r → RwV K r u H) → DpAll K H vs (B.map rwD)
  | [], [], _, _ => .nil
  | [], _ :: _, h, _ => by simp at h
  | _ :: _, [], h, _ => by simp at h
  | u :: vs, r :: B, h, hr => .cons (rw_dp (hr 0 u r rfl rfl)) (bd_all (by simpa using h) fun i u' r' h1 h2 => hr (i + 1) u' r' h1 h2)
theorem bd_dp (h : BdV K B v H) : Dp K H v (bdD B) := by
  obtain ⟨p, vs, rfl, hs, hl, hr⟩ := h
  exact .tup hs (bd_all hl hr)
theorem eqvI : ∀ (ns ms : List Int), PyData.eqvAll (ns.map PyData.int) (ms.map PyData.int) = decide (ns = ms)
  | [], [] => rfl
  | [], _ :: _ => rfl
  | _ :: _, [] => rfl
  | a :: r, b :: s => by
    show (PyData.eqv (.int a) (.int b) && PyData.eqvAll (r.map PyData.int) (s.map PyData.int)) = _
    rw [eqvI r s, show PyData.eqv (.int a) (.int b) = (a == b) from by rw [PyData.eqv]]
    by_cases h1 : a = b <;> by_cases h2 : r = s <;> simp [h1, h2]
theorem eqvB : ∀ (B C : List (List Int)), PyData.eqvAll (B.map rwD) (C.map rwD) = decide (B = C)
  | [], [] => rfl
  | [], _ :: _ => rfl
  | _ :: _, [] => rfl
  | a :: r, b :: s => by
    show (PyData.eqv (rwD a) (rwD b) && PyData.eqvAll (r.map rwD) (s.map rwD)) = _
    rw [eqvB r s, show PyData.eqv (rwD a) (rwD b) = decide (a = b) from by unfold rwD; rw [PyData.eqv, eqvI]]
    by_cases h1 : a = b <;> by_cases h2 : r = s <;> simp [h1, h2]
theorem eqv_bd : PyData.eqv (bdD B) (bdD C) = decide (B = C) := by
  unfold bdD
  rw [PyData.eqv, eqvB]
theorem layI : ∀ (ns : List Int), PyData.canLayAll0 (ns.map PyData.int) = true ∧ PyData.depthAll (ns.map PyData.int) ≤ 1
  | [] => ⟨rfl, by simp [PyData.depthAll]⟩
  | n :: r => by
    obtain ⟨h1, h2⟩ := layI r
    refine ⟨?_, ?_⟩
    · simp [PyData.canLayAll0, PyData.canLay0, h1]
    · simp only [List.map_cons, PyData.depthAll, PyData.depth]
      omega
theorem layB : ∀ (B : List (List Int)), PyData.canLayAll0 (B.map rwD) = true ∧ PyData.depthAll (B.map rwD) ≤ 3
  | [] => ⟨rfl, by simp [PyData.depthAll]⟩
  | b :: r => by
    obtain ⟨h1, h2⟩ := layB r
    obtain ⟨h3, h4⟩ := layI b
    refine ⟨?_, ?_⟩
    · simp [PyData.canLayAll0, PyData.canLay0, rwD, h1, h3]
    · simp only [List.map_cons, PyData.depthAll, PyData.depth, rwD]
      omega
theorem shaped_bd : SeqAt.shaped (bdD B) = true := by
  obtain ⟨h1, h2⟩ := layB B
  unfold SeqAt.shaped bdD
  simp only [PyData.canLay0, PyData.depth, h1, Bool.true_and]
  exact decide_eq_true (by omega)
theorem shaped_rw (r : List Int) : SeqAt.shaped (rwD r) = true := by
  obtain ⟨h1, h2⟩ := layI r
  unfold SeqAt.shaped rwD
  simp only [PyData.canLay0, PyData.depth, h1, Bool.true_and]
  exact decide_eq_true (by omega)
theorem shaped_l (r : List Int) : SeqAt.shaped (.list (r.map PyData.int)) = true := by
  obtain ⟨h1, h2⟩ := layI r
  unfold SeqAt.shaped
  simp only [PyData.canLay0, PyData.depth, h1, Bool.true_and]
  exact decide_eq_true (by omega)
theorem rv_eqB (h1 : BdV K B x H) (h2 : BdV K C y H) : RV (rEqD K) x y H (.bl (decide (B = C))) :=
  fun H1 e Q q => ⟨bdD B, bdD C, bd_dp (h1.up e), bd_dp (h2.up e), shaped_bd, shaped_bd, by rw [eqv_bd]; exact q H1 (Ex.refl H1)⟩
theorem rv_neB (h1 : BdV K B x H) (h2 : BdV K C y H) : RV (rNeD K) x y H (.bl (decide (B ≠ C))) :=
  fun H1 e Q q => ⟨bdD B, bdD C, bd_dp (h1.up e), bd_dp (h2.up e), shaped_bd, shaped_bd, by rw [eqv_bd, ← decide_not]; exact q H1 (Ex.refl H1)⟩
theorem rv_eqL {p q : Addr} {ns ms : List Int} (h1 : SqL K H p (ns.map V.int)) (h2 : SqL K H q (ms.map V.int)) : RV (rEqD K) (.ref p) (.ref q) H (.bl (decide (ns = ms))) :=
  fun H1 e Q k => ⟨_, _, .lst (ex_l e h1) (dpI ns), .lst (ex_l e h2) (dpI ms), shaped_l ns, shaped_l ms, by rw [PyData.eqv, eqvI]; exact k H1 (Ex.refl H1)⟩
theorem rv_neL {p q : Addr} {ns ms : List Int} (h1 : SqL K H p (ns.map V.int)) (h2 : SqL K H q (ms.map V.int)) : RV (rNeD K) (.ref p) (.ref q) H (.bl (decide (ns ≠ ms))) :=
  fun H1 e Q k => ⟨_, _, .lst (ex_l e h1) (dpI ns), .lst (ex_l e h2) (dpI ms), shaped_l ns, shaped_l ms, by rw [PyData.eqv, eqvI, ← decide_not]; exact k H1 (Ex.refl H1)⟩
theorem rv_eqT {ns ms : List Int} (h1 : RwV K ns x H) (h2 : RwV K ms y H) : RV (rEqD K) x y H (.bl (decide (ns = ms))) :=
  fun H1 e Q k => ⟨_, _, rw_dp (rw_imm ns x _ _ (ExI.of e) h1), rw_dp (rw_imm ms y _ _ (ExI.of e) h2), shaped_rw ns, shaped_rw ms, by unfold rwD; rw [PyData.eqv, eqvI]; exact k H1 (Ex.refl H1)⟩
theorem rv_neT {ns ms : List Int} (h1 : RwV K ns x H) (h2 : RwV K ms y H) : RV (rNeD K) x y H (.bl (decide (ns ≠ ms))) :=
  fun H1 e Q k => ⟨_, _, rw_dp (rw_imm ns x _ _ (ExI.of e) h1), rw_dp (rw_imm ms y _ _ (ExI.of e) h2), shaped_rw ns, shaped_rw ms, by unfold rwD; rw [PyData.eqv, eqvI, ← decide_not]; exact k H1 (Ex.refl H1)⟩
/-! isinstance of a value whose type is known -/
theorem rc_isi {x c : V} {t u : Value} {b : Bool} (k : ClsV c u) (ty : ∀ H1, Ex H H1 → TyX K H1 x t) (h : PySem.W.kitOne K t u = some b) : RC (rIsi K) [x, c] H (.bl b) := fun H1 e Q q => ⟨x, c, t, u, b, rfl, k, ty H1 e, h, q H1 (Ex.refl H1)⟩
theorem tyx_t {a : Addr} {xs : List V} (h : SqT K H a xs) : TyX K H (.ref a) (.type "tuple") := by
  rcases h with (h | ⟨o, h⟩) | ⟨o, its, n, h, hc, _⟩
  · exact .base (.tup h)
  · exact .fTuple h
  · exact .kTuple h hc
theorem tyx_l {a : Addr} {xs : List V} (h : SqL K H a xs) : TyX K H (.ref a) (.type "list") := by
  rcases h with (h | ⟨o, h⟩) | ⟨o, its, n, h, hc, _⟩
  · exact .base (.lst h)
  · exact .base (.frz h)
  · exact .kList h hc
end
/-! ### boards that are equal -/
theorem mk_congr {h w : Nat} {f g : Int → Int → Int} (e : ∀ (y x : Int), 0 ≤ y → y < h → 0 ≤ x → x < w → f y x = g y x) : mk h w f = mk h w g := by
  unfold mk rowOf
  apply List.map_congr_left
  intro y hy
  apply List.map_congr_left
  intro x hx
  have h1 := List.mem_range.mp hy
  have h2 := List.mem_range.mp hx
  exact e _ _ (by omega) (by omega) (by omega) (by omega)
theorem mk_inj {h w : Nat} {f g : Int → Int → Int} (e : mk h w f = mk h w g) {y x : Int} (h0 : 0 ≤ y) (h1 : y < h) (h2 : 0 ≤ x) (h3 : x < w) : f y x = g y x := by
  obtain ⟨i, rfl⟩ := Int.eq_ofNat_of_zero_le h0
  have e1 : (mk h w f)[i]? = (mk h w g)[i]? := by rw [e]
  rw [mk_get (show i < h by omega), mk_get (show i < h by omega)] at e1
  have e2 := Option.some.inj e1
  rw [← at0_rowOf (f := f i) h2 h3, ← at0_rowOf (f := g i) h2 h3, e2]
/-! ### calls of builtins, by relations with a name -/
section
variable {X : Cx}
theorem call_lenS : CallR X (.builtin "len") (rLenS X.K) := call_len_seq
theorem call_listS : CallR X (.type "list") (rListS X.K) := call_list_of
theorem call_tupS : CallR X (.type "tuple") (rTupS X.K) := call_tuple_of
theorem call_min2S (hc : X.calm = true) : CallR X (.builtin "min") rMin2 := call_min2 hc
theorem call_int1S : CallR X (.type "int") rInt1 := call_int1
theorem op_geS : OpR X (compareOp .GtE) (rI0 fun i j => .bl (decide (j ≤ i))) := op_ge
end
/-! ### the body's context of a def -/
theorem spv_of {sp : Sp} {vs : List V} {H : Hp} {z : V} (h : ∀ H1, Ex H H1 → ∀ Q : VK, RetV z H1 Q → ∀ E : XK, sp vs H1 Q E) : SpV sp vs H z := h
/-! ### sum of a tuple of ints -/
def rSumT (K : PySem.W.Frag) : List V → Hp → VK → Prop := fun vs H Q => ∃ (a : Addr) (ns : List Int), vs = [V.ref a] ∧ SqT K H a (ns.map V.int) ∧ Q (.int ns.sum) H
theorem cr_sumT {X : Cx} (hc : X.calm = true) : CallR X (.builtin "sum") (rSumT X.K) := by
  intro pins s σ H vs us Q I r h
  obtain ⟨a, ns, rfl, hs, q⟩ := h
  obtain ⟨its, rv, hl, _⟩ := I.tuple hs
  rw [Vals.ref1 r]
  obtain ⟨xs, e⟩ := (Vals.ints rv).allInts.items
  have hn : numsOf (intItems xs).toList = ns := by rw [← e]; exact (Vals.ints rv).numsOf
  rw [nums_intItems] at hn
  rw [e] at hl
  refine PySem.W.ktm_sumG (I.ok.hd hc) hl fun h' tk t' hk => ?_
  rw [preSum_eq, List.take_of_length_le (by simp), hn]
  exact ⟨.int _, H, I.kept hk, ⟨_, rfl⟩, q⟩
section
variable {K : PySem.W.Frag} {σ : L2.St} {H H' : Hp} {ta tb te tx : TE} {t u : TT} {x y z v : V} {r : R2} {P : V → Hp → Prop} {D : Ends} {tu tw tz : TS}
theorem ev_sumT {p : Addr} {ns : List Int} (ha : Ev ta σ H (.ref p)) (h : SqT K H p (ns.map V.int)) : Ev (tCB (rSumT K) (tCons ta tNil)) σ H (.int ns.sum) :=
  fun H1 e Q q => ha H1 e _ fun H2 e2 => ⟨p, ns, rfl, ex_t (e.trans e2) h, q H2 e2⟩
/-- if without else -/
theorem go_when {p : Prop} [Decidable p] (h : EvT t σ H (decide p)) (h1 : p → Go tu { D with nx := tz D } σ H) (h2 : ¬ p → Go tz D σ H) : Go (tSeq (tIfS t tu tNext) tz) D σ H := go_ifd h h1 h2
theorem go_whenb {b : Bool} (h : EvT t σ H b) (h1 : b = true → Go tu { D with nx := tz D } σ H) (h2 : b = false → Go tz D σ H) : Go (tSeq (tIfS t tu tNext) tz) D σ H := go_if h h1 h2
theorem gl_when {p : Prop} [Decidable p] (h : EvT t σ H (decide p)) (h1 : p → Go tu D σ H) (h2 : ¬ p → GoN D σ H) : Go (tIfS t tu tNext) D σ H := gl_ifd h h1 h2
theorem gl_whenb {b : Bool} (h : EvT t σ H b) (h1 : b = true → Go tu D σ H) (h2 : b = false → GoN D σ H) : Go (tIfS t tu tNext) D σ H := gl_if h h1 h2
/-- a test that is false, its branch never taken -/
theorem go_not {b : Bool} (h : EvT t σ H b) (hb : b = false) (h2 : Go tz D σ H) : Go (tSeq (tIfS t tu tNext) tz) D σ H := go_whenb h (fun e => by rw [hb] at e; cases e) (fun _ => h2)
end
/-! ### a word behind an if -/
section
variable {K : PySem.W.Frag} {σ : L2.St} {H H' : Hp} {ta tb te tx : TE} {t u : TT} {D : Ends} {tu tw tz : TS}
theorem go_cut (M : L2.St → Hp → Prop) (h : Go tu { D with nx := M } σ H) (k : ∀ σ' H', M σ' H' → Go tz D σ' H') : Go (tCut tu tz) D σ H := fun H1 e => ⟨M, h H1 e, fun σ' H' m => (k σ' H' m).at⟩
theorem go_cutIf {b : Bool} (M : L2.St → Hp → Prop) (h : EvT t σ H b) (h1 : b = true → Go tu { D with nx := M } σ H) (h2 : b = false → Go tw { D with nx := M } σ H) (k : ∀ σ' H', M σ' H' → Go tz D σ' H') : Go (tCut (tIfS t tu tw) tz) D σ H :=
  go_cut M (gl_if h h1 h2) k
theorem go_cutIfd {p : Prop} [Decidable p] (M : L2.St → Hp → Prop) (h : EvT t σ H (decide p)) (h1 : p → Go tu { D with nx := M } σ H) (h2 : ¬ p → Go tw { D with nx := M } σ H) (k : ∀ σ' H', M σ' H' → Go tz D σ' H') : Go (tCut (tIfS t tu tw) tz) D σ H :=
  go_cut M (gl_ifd h h1 h2) k
end
/-! ### methods of lists as statements -/
def rInsert : V → List V → Hp → VK → Prop := fun x vs H Q => ∃ (l : Addr) (xs : List V) (i : Int) (y : V), x = .ref l ∧ vs = [.int i, y] ∧ H l = some (.lst xs) ∧ xs.length < sizeLine ∧ 0 ≤ i ∧ i < 2 ^ 63 ∧ Q .non (upd H l (.lst (xs.take i.toNat ++ [y] ++ xs.drop i.toNat)))
section
variable {K : PySem.W.Frag} {σ : L2.St} {H H' : Hp} {ta tb te tx : TE} {t u : TT} {x y z v : V} {P : V → Hp → Prop} {D : Ends} {tu tw tz : TS}
theorem gl_rev {l : Addr} {xs : List V} (hl : H l = some (.lst xs)) (ha : Ev ta σ H (.ref l)) (k : ∀ H1, Ex H H1 → GoN D σ (upd H1 l (.lst xs.reverse))) : Go (tDrop (tBM0 K "list" rReverse ta)) D σ H :=
  fun H1 e => ha H1 e _ fun H2 e2 => ⟨.inl ⟨rfl, xs, sq_of (e2 l _ (e l _ hl))⟩, l, xs, rfl, rfl, e2 l _ (e l _ hl), k H2 (e.trans e2) _ (Ex.refl _)⟩
theorem gl_clear {l : Addr} {xs : List V} (hl : H l = some (.lst xs)) (ha : Ev ta σ H (.ref l)) (k : ∀ H1, Ex H H1 → GoN D σ (upd H1 l (.lst []))) : Go (tDrop (tBM0 K "list" rClear ta)) D σ H :=
  fun H1 e => ha H1 e _ fun H2 e2 => ⟨.inl ⟨rfl, xs, sq_of (e2 l _ (e l _ hl))⟩, l, xs, rfl, rfl, e2 l _ (e l _ hl), k H2 (e.trans e2) _ (Ex.refl _)⟩
theorem go_clear {l : Addr} {xs : List V} (hl : H l = some (.lst xs)) (ha : Ev ta σ H (.ref l)) (k : ∀ H1, Ex H H1 → Go tz D σ (upd H1 l (.lst []))) : Go (tSeq (tDrop (tBM0 K "list" rClear ta)) tz) D σ H := gl_clear (D := { D with nx := tz D }) hl ha k
theorem gl_ins0 {l : Addr} {xs : List V} (hl : H l = some (.lst xs)) (ha : Ev ta σ H (.ref l)) (hi : Ev tb σ H (.int 0)) (h : Ev te σ H v) (hz : xs.length < 100000) (k : ∀ H1, Ex H H1 → GoN D σ (upd H1 l (.lst (v :: xs)))) : Go (tDrop (tBM K "list" rInsert ta (tCons tb (tCons te tNil)))) D σ H :=
  fun H1 e => ha H1 e _ fun H2 e2 => ⟨.inl ⟨rfl, xs, sq_of (e2 l _ (e l _ hl))⟩, hi H2 (e.trans e2) _ fun H3 e3 => h H3 ((e.trans e2).trans e3) _ fun H4 e4 =>
    ⟨l, xs, 0, v, rfl, rfl, e4 l _ (e3 l _ (e2 l _ (e l _ hl))), sz_lt hz, by decide, by decide, k H4 (((e.trans e2).trans e3).trans e4) _ (Ex.refl _)⟩⟩
theorem go_ins0 {l : Addr} {xs : List V} (hl : H l = some (.lst xs)) (ha : Ev ta σ H (.ref l)) (hi : Ev tb σ H (.int 0)) (h : Ev te σ H v) (hz : xs.length < 100000) (k : ∀ H1, Ex H H1 → Go tz D σ (upd H1 l (.lst (v :: xs)))) : Go (tSeq (tDrop (tBM K "list" rInsert ta (tCons tb (tCons te tNil)))) tz) D σ H :=
  gl_ins0 (D := { D with nx := tz D }) hl ha hi h hz k
end
theorem mt_insertS {X : Cx} : MtR X "list.insert" rInsert := mt_insert
/-! ### more -/
section
variable {K : PySem.W.Frag} {σ : L2.St} {H H' : Hp} {ta tb te tx : TE} {t u : TT} {x y z v : V} {P : V → Hp → Prop} {D : Ends} {tu tw tz : TS}
def ranI (n : Nat) (f : Int → Int) : List Int := (List.range n).map fun i : Nat => f (i : Int)
theorem len_ranI (n : Nat) (f : Int → Int) : (ranI n f).length = n := by unfold ranI; simp
theorem ranI_succ (n : Nat) (f : Int → Int) : ranI (n + 1) f = ranI n f ++ [f n] := by unfold ranI; rw [List.range_succ, List.map_append]; rfl
theorem at0_ranI {n : Nat} {f : Int → Int} {i : Int} (h0 : 0 ≤ i) (h1 : i < (n : Int)) : at0 (ranI n f) i = f i := at0_rowOf h0 h1
theorem ranI_congr {n : Nat} {f g : Int → Int} (h : ∀ i : Int, 0 ≤ i → i < n → f i = g i) : ranI n f = ranI n g := by
  unfold ranI
  apply List.map_congr_left
  intro i hi
  have := List.mem_range.mp hi
  exact h _ (by omega) (by omega)
theorem el_mapRI {ta : TA} {j : Nat} {vs : List Nat} {n : Int} (f : Int → Int) (h : EvA ta σ H [.int n]) (hn : 0 ≤ n ∧ n ≤ 40000) (hw : ∀ x, wipe ((wipe σ vs).set j (some x)) vs = wipe σ vs)
    (he : ∀ (i : Nat), (i : Int) < n → Ev te ((wipe σ vs).set j (some (.int (i : Int)))) H (.int (f (i : Int)))) : EvL (tLc (iRng1 ta) (gName j) tYes te vs) σ H ((ranI n.toNat f).map V.int) := by
  have := el_mapR (fun i : Nat => V.int (f (i : Int))) h hn hw he
  unfold ranI
  rw [List.map_map]
  exact this
/-- an item of a list that is just made -/
theorem ev_ixNL {xs : List V} {i : Int} (ha : EvL ta σ H xs) (hb : ∀ H1, Ex H H1 → Ev tb σ H1 (.int i)) (hx : atI xs i = some v) : Ev (tOp (rIxL K) ta tb) σ H v := ev_opL1 ha hb fun p H1 hp _ => rv_ixL (sq_of hp) hx
theorem ev_neN {p : Addr} {ns ms : List Int} (ha : Ev ta σ H (.ref p)) (h : SqL K H p (ns.map V.int)) (hb : EvL tb σ H (ms.map V.int)) : Ev (tOp (rNeD K) ta tb) σ H (.bl (decide (ns ≠ ms))) :=
  ev_opL ha hb fun q H1 hq e => rv_neL (ex_l e h) (sq_of hq)
theorem ev_neU {ns ms : List Int} (ha : Ev ta σ H v) (h : RwV K ns v H) (hb : EvU tb σ H (ms.map V.int)) : Ev (tOp (rNeD K) ta tb) σ H (.bl (decide (ns ≠ ms))) :=
  ev_opV ha hb fun q H1 hq e => rv_neT (rw_imm _ _ _ _ (ExI.of e) h) ⟨q, rfl, st_of hq⟩
theorem ev_isiT {a : Addr} {xs : List V} (ha : Ev ta σ H (.ref a)) (h : SqT K H a xs) : Ev (tCB (rIsi K) (tCons ta (tCons (tC (.ty "tuple")) tNil))) σ H (.bl true) :=
  ev_cb (ea_cons ha (ea_cons ev_c ea_nil)) (rc_isi (.ty "tuple") (fun H1 e => tyx_t (ex_t e h)) (kit_ty (by decide +kernel)))
theorem ev_isiL {a : Addr} {xs : List V} (ha : Ev ta σ H (.ref a)) (h : SqL K H a xs) : Ev (tCB (rIsi K) (tCons ta (tCons (tC (.ty "list")) tNil))) σ H (.bl true) :=
  ev_cb (ea_cons ha (ea_cons ev_c ea_nil)) (rc_isi (.ty "list") (fun H1 e => tyx_l (ex_l e h)) (kit_ty (by decide +kernel)))
theorem ev_isiB {b : Bool} (ha : Ev ta σ H (.bl b)) : Ev (tCB (rIsi K) (tCons ta (tCons (tC (.ty "bool")) tNil))) σ H (.bl true) :=
  ev_cb (ea_cons ha (ea_cons ev_c ea_nil)) (rc_isi (.ty "bool") (fun H1 e => .base (.bl b)) (kit_ty (by decide +kernel)))
theorem ev_isiS {x : Str} (ha : Ev ta σ H (.str x)) : Ev (tCB (rIsi K) (tCons ta (tCons (tC (.ty "str")) tNil))) σ H (.bl true) :=
  ev_cb (ea_cons ha (ea_cons ev_c ea_nil)) (rc_isi (.ty "str") (fun H1 e => .base (.str x)) (kit_ty (by decide +kernel)))
/-- a statement ahead of the rest: what it reaches is M -/
theorem go_mid (M : L2.St → Hp → Prop) (h : Go tu { D with nx := M } σ H) (k : ∀ σ' H', M σ' H' → Go tz D σ' H') : Go (tCut tu tz) D σ H := go_cut M h k
end
/-- the law's promise -/
def sp_law (K : PySem.W.Frag) : Sp := fun vs H Q _ => ∃ (a : Addr) (ns : List Int), vs = [.ref a] ∧ SqL K H a (ns.map V.int) ∧ ns.length ≤ 63 ∧ ∀ H', Q (.bl true) H'
theorem sp_law_of {K : PySem.W.Frag} {H : Hp} {a : Addr} {ns : List Int} (hS : SqL K H a (ns.map V.int)) (hl : ns.length ≤ 63) : sp_law K [.ref a] H (fun v _ => v = .bl true) fun _ _ _ => False := ⟨a, ns, rfl, hS, hl, fun _ => rfl⟩
/-- colours -/
theorem col_of (z : Int) : 2 ≤ 2 + z % 2 ∧ 2 + z % 2 ≤ 3 := by
  have h1 := Int.emod_nonneg z (show (2 : Int) ≠ 0 by decide)
  have h2 := Int.emod_lt_of_pos z (show (0 : Int) < 2 by decide)
  omega
theorem col_four {c : Int} (h0 : 2 ≤ c) (h1 : c ≤ 3) : (c = 2 ∧ c * c * c * c = 16) ∨ (c = 3 ∧ c * c * c * c = 81) := by
  rcases (show c = 2 ∨ c = 3 by omega) with rfl | rfl
  · exact .inl ⟨rfl, rfl⟩
  · exact .inr ⟨rfl, rfl⟩
end BT

/-! ### the text -/
namespace BT
open PySem PySem.Spec PyProof.Rows L2 Evl
def topS (i : Nat) : Stmt := PySem.Challenge.pw_blockturn_k02_blocks_and_named_rules.main.body.getD i (.Pass ⟨0, 0, 0, 0⟩)
abbrev s_block_of : Stmt := topS 1
theorem sc_block_of : FnScope ["number", "colours", "found", "k"] ["number", "colours"] (defScope s_block_of) := ⟨rfl, rfl, rfl, by decide +kernel, rfl, by decide +kernel, by decide +kernel⟩
abbrev s_number_of : Stmt := topS 2
theorem sc_number_of : FnScope ["block", "colours", "found", "colour"] ["block", "colours"] (defScope s_number_of) := ⟨rfl, rfl, rfl, by decide +kernel, rfl, by decide +kernel, by decide +kernel⟩
abbrev s_turned_block : Stmt := topS 3
theorem sc_turned_block : FnScope ["block", "turning", "k"] ["block", "turning"] (defScope s_turned_block) := ⟨rfl, rfl, rfl, by decide +kernel, rfl, by decide +kernel, by decide +kernel⟩
abbrev s_other_colours : Stmt := topS 4
theorem sc_other_colours : FnScope ["block", "colour"] ["block"] (defScope s_other_colours) := ⟨rfl, rfl, rfl, by decide +kernel, rfl, by decide +kernel, by decide +kernel⟩
abbrev s_billiard : Stmt := topS 5
theorem sc_billiard : FnScope ["block"] ["block"] (defScope s_billiard) := ⟨rfl, rfl, rfl, by decide +kernel, rfl, by decide +kernel, by decide +kernel⟩
abbrev s_critters : Stmt := topS 6
theorem sc_critters : FnScope ["block"] ["block"] (defScope s_critters) := ⟨rfl, rfl, rfl, by decide +kernel, rfl, by decide +kernel, by decide +kernel⟩
abbrev s_named : Stmt := topS 7
theorem sc_named : FnScope ["name", "found", "number", "block"] ["name"] (defScope s_named) := ⟨rfl, rfl, rfl, by decide +kernel, rfl, by decide +kernel, by decide +kernel⟩
abbrev s__law_cell_at : Stmt := topS 9
theorem sc__law_cell_at : FnScope ["script", "k"] ["script", "k"] (defScope s__law_cell_at) := ⟨rfl, rfl, rfl, by decide +kernel, rfl, by decide +kernel, by decide +kernel⟩
abbrev s__law_whole : Stmt := topS 10
theorem sc__law_whole : FnScope ["found"] ["found"] (defScope s__law_whole) := ⟨rfl, rfl, rfl, by decide +kernel, rfl, by decide +kernel, by decide +kernel⟩
abbrev s__law_rule_by : Stmt := topS 11
theorem sc__law_rule_by : FnScope ["cell", "colours", "k", "rest", "out", "a", "b"] ["cell", "colours"] (defScope s__law_rule_by) := ⟨rfl, rfl, rfl, by decide +kernel, rfl, by decide +kernel, by decide +kernel⟩
abbrev s__law_named : Stmt := topS 12
theorem sc__law_named : FnScope ["kind", "number", "bits", "three", "bit"] ["kind", "number"] (defScope s__law_named) := ⟨rfl, rfl, rfl, by decide +kernel, rfl, by decide +kernel, by decide +kernel⟩
abbrev s_law : Stmt := topS 13
theorem sc_law : FnScope ["script", "colours", "number", "due", "rest", "k", "found", "again", "kind", "turn", "rule"] ["script"] (defScope s_law) := ⟨rfl, rfl, rfl, by decide +kernel, rfl, by decide +kernel, by decide +kernel⟩
structure Bl (mg : Str → Option Value) : Prop where
  bool_ : mg "bool" = none
  int_ : mg "int" = none
  isinstance_ : mg "isinstance" = none
  len_ : mg "len" = none
  list_ : mg "list" = none
  range_ : mg "range" = none
  reversed_ : mg "reversed" = none
  sum_ : mg "sum" = none
  tuple_ : mg "tuple" = none
end BT
open PySem PySem.Spec PyProof.Rows L2 Evl BT
local macro_rules | `(tactic| walk_at "le") => `(tactic| first | assumption | omega | decide | (simp only [List.length_map, len_rowOf, len_mk, List.length_cons, List.length_nil] at *; omega))
local macro_rules | `(tactic| walk_at "sq") => `(tactic| first | assumption | exact sq_of (by assumption) | exact st_of (by assumption))
local macro_rules | `(tactic| walk_at "rv") => `(tactic| first
  | ((with_reducible show RV (rI0 _) _ _ _ _); exact rv_I0)
  | ((with_reducible show RV rEq _ _ _ _); first | exact rv_eqI | exact rv_eqS | exact rv_eqBl)
  | ((with_reducible show RV rNe _ _ _ _); first | exact rv_neI | exact rv_neS)
  | ((with_reducible show RV (rI (fun _ j => 0 < j) fun i j => V.int (i % j)) _ _ _ _); exact rv_mod (by walk_at "le"))
  | ((with_reducible show RV (rI CDiv _) _ _ _ _); exact rv_fdiv (by walk_at "le") (by walk_at "le"))
  | ((with_reducible show RV (rI CMul _) _ _ _ _); first | exact rv_mulR (by walk_at "le") (by walk_at "le") | exact rv_mulL (by walk_at "le") (by walk_at "le"))
  | ((with_reducible show RV (rI CPow _) _ _ _ _); exact rv_pow ⟨by decide, by decide, by decide⟩)
  | ((with_reducible show RV (rEqD _) _ _ _ _); first | exact rv_eqB (by assumption) (by assumption) | exact rv_eqL (by walk_at "sq") (by walk_at "sq") | exact rv_eqT (by assumption) (by assumption))
  | ((with_reducible show RV (rNeD _) _ _ _ _); first | exact rv_neB (by assumption) (by assumption) | exact rv_neL (by walk_at "sq") (by walk_at "sq") | exact rv_neT (by assumption) (by assumption)))
local macro_rules | `(tactic| walk_at "ev") => `(tactic| first
  | ((with_reducible show Ev (tVar _) _ _ _); exact ev_var rfl)
  | ((with_reducible show Ev (tC _) _ _ _); exact ev_c)
  | ((with_reducible show Ev (tCB (rLenS _) (tCons (tOp (rIxT _) _ _) tNil)) _ _ _); exact ev_wide (by walk_at "le") (by walk_at "ev") (by walk_at "ev") (by assumption))
  | ((with_reducible show Ev (tCB (rLenS _) (tCons _ tNil)) _ _ _); first | exact ev_lenM (by walk_at "ev") (by assumption) | exact ev_lenLI (by walk_at "ev") (by walk_at "sq") | exact ev_lenTI (by walk_at "ev") (by walk_at "sq") | exact ev_lenL (by walk_at "ev") (by walk_at "sq") | exact ev_lenT (by walk_at "ev") (by walk_at "sq"))
  | ((with_reducible show Ev (tOp (rIxT _) (tOp (rIxT _) _ _) _) _ _ _); exact ev_cell (by walk_at "ev") (by walk_at "ev") (by walk_at "ev") (by assumption) (by walk_at "le") (by walk_at "le") (by walk_at "le") (by walk_at "le"))
  | ((with_reducible show Ev (tOp (rIxL _) _ _) _ _ _); exact ev_ixLI (by walk_at "ev") (by walk_at "ev") (by walk_at "sq") (by walk_at "le") (by walk_at "le"))
  | ((with_reducible show Ev (tOp (rIxT _) _ _) _ _ _); exact ev_ixTI (by walk_at "ev") (by walk_at "ev") (by walk_at "sq") (by walk_at "le") (by walk_at "le"))
  | ((with_reducible show Ev (tOp _ _ _) _ _ _); exact ev_op (by walk_at "ev") (by walk_at "ev") (by walk_at "rv"))
  | ((with_reducible show Ev (tUn _ _) _ _ _); exact ev_un (by walk_at "ev") ru_neg)
  | ((with_reducible show Ev (tCall _ _ _ _) _ _ _); exact ev_call (by walk_at "ea") (by walk_at "sp"))
  | ((with_reducible show Ev (tCB (rSum _) (tCons _ tNil)) _ _ _); exact ev_sumL (by walk_at "ev") (by walk_at "sq"))
  | ((with_reducible show Ev (tCB (rSumT _) (tCons _ tNil)) _ _ _); exact ev_sumT (by walk_at "ev") (by walk_at "sq"))
  | ((with_reducible show Ev (tCB rMin2 _) _ _ _); exact ev_min2 (by walk_at "ev") (by walk_at "ev"))
  | ((with_reducible show Ev (tCB rInt1 _) _ _ _); exact ev_intB (by walk_at "ev"))
  | ((with_reducible show Ev (tNotV _) _ _ _); exact ev_notV (by walk_at "ev"))
  | ((with_reducible show Ev (tAndV _ _) _ _ _); exact ev_andV (by walk_at "ev") (by (intro _; walk_at "ev")))
  | ((with_reducible show Ev (tOrV _ _) _ _ _); exact ev_orV (by walk_at "ev") (by (intro _; walk_at "ev"))))
local macro_rules | `(tactic| walk_at "ea") => `(tactic| first
  | ((with_reducible show EvA tNil _ _ _); exact ea_nil)
  | ((with_reducible show EvA (tCons _ _) _ _ _); exact ea_cons (by walk_at "ev") (by walk_at "ea")))
local macro_rules | `(tactic| walk_at "et") => `(tactic| first
  | ((with_reducible show EvT tYes _ _ _); exact et_yes)
  | ((with_reducible show EvT (tTest _) _ _ _); exact et_test (by walk_at "ev"))
  | ((with_reducible show EvT (tB _) _ _ _); exact et_B (by walk_at "ev"))
  | ((with_reducible show EvT (tNot _) _ _ _); exact et_not (by walk_at "et"))
  | ((with_reducible show EvT (tAnd _ _) _ _ _); exact et_and (by walk_at "et") (by (intro _; walk_at "et")))
  | ((with_reducible show EvT (tOr _ _) _ _ _); exact et_or (by walk_at "et") (by (intro _; walk_at "et"))))
namespace BT
open PySem PySem.Spec PyProof.Rows L2 Evl
/-! #### _law_cell_at -/
def sp__law_cell_at (K : PySem.W.Frag) : Sp := fun vs H Q _ => ∃ (a : Addr) (ns : List Int) (k : Int), vs = [.ref a, .int k] ∧ SqL K H a (ns.map V.int) ∧ 0 ≤ k ∧ RetV (.int (at0 ns k)) H Q
theorem spv__law_cell_at {K : PySem.W.Frag} {H : Hp} {a : Addr} {ns : List Int} {k : Int} (h : SqL K H a (ns.map V.int)) (h0 : 0 ≤ k) : SpV (sp__law_cell_at K) [.ref a, .int k] H (.int (at0 ns k)) :=
  fun H1 e Q q E => ⟨a, ns, k, rfl, ex_l e h, h0, q⟩
local macro_rules | `(tactic| walk_at "sp") => `(tactic| (refine' spv__law_cell_at ?h1 ?h2; (case h1 => walk_at "sq"); (case h2 => walk_at "le")))
theorem cal__law_cell_at {P : Program} {w : World} {K : PySem.W.Frag} {mg : Str → Option Value} {base : Heap} {f : Addr} {fd : FuncData} (B : Bl mg) (D : DefAt K mg "_law_cell_at" s__law_cell_at ["script", "k"] f fd)  :
    CalE P w K mg base CX0 1 "_law_cell_at" ["script", "k"] (sp__law_cell_at K) := by
  refine ⟨f, fd, D.F.ok sc__law_cell_at (fun vs H Q E h => ?_) (fun cdv A outer s H vs Q E hr h => ?_), D.g, D.F.kp, D.b⟩
  · obtain ⟨a, ns, k, rfl, _⟩ := h; rfl
  · obtain ⟨a, ns, k, rfl, hS, h0, q⟩ := h
    refine ⟨_, (pss_cons (ps_if (pt_cmpR op_lt (pv 1) (pe_callB call_lenS (by rfl) B.len_ (by decide +kernel) (pa_cons (pv 0) pa_nil)) (nomark _)) (pss_one (ps_ret (pe_ix ix_list (pv 0) (pv 1) (fun _ _ => rfl)))) pss_nil)
 (pss_one (ps_ret pe_int))), Go.at ?_⟩
    refine go_when (p := k < (ns.length : Int)) (by walk_at "et") (fun hk => ?_) (fun hk => ?_)
    · exact go_ret (by walk_at "ev") q
    · refine go_ret (by walk_at "ev") (v := .int 0) ?_
      have e0 : at0 ns k = 0 := by
        unfold at0
        rw [List.getD_eq_getElem?_getD, List.getElem?_eq_none (by omega)]
        rfl
      rw [e0] at q
      exact q
/-! #### block_of -/
def quo (n c : Int) : Nat → Int
  | 0 => n
  | i + 1 => quo n c i / c
def digs (n c : Int) : Nat → List Int
  | 0 => []
  | i + 1 => digs n c i ++ [quo n c i % c]
theorem digs_len (n c : Int) : ∀ i, (digs n c i).length = i
  | 0 => rfl
  | i + 1 => by rw [digs, List.length_append, digs_len n c i]; rfl
def blockM (n c : Int) : List Int := [n / c / c / c % c, n / c / c % c, n / c % c, n % c]
def sp_block_of (K : PySem.W.Frag) : Sp := fun vs H Q _ => ∃ (n c : Int), vs = [.int n, .int c] ∧ 0 < c ∧ c ≤ 3 ∧ RetP (RwV K (blockM n c)) H Q
theorem spp_block_of {K : PySem.W.Frag} {H : Hp} {n c : Int} (h0 : 0 < c) (h1 : c ≤ 3) : SpP (sp_block_of K) [.int n, .int c] H (RwV K (blockM n c)) := fun H1 e Q q E => ⟨n, c, rfl, h0, h1, q⟩
theorem cal_block_of {P : Program} {w : World} {K : PySem.W.Frag} {mg : Str → Option Value} {base : Heap} {f : Addr} {fd : FuncData} (B : Bl mg) (D : DefAt K mg "block_of" s_block_of ["number", "colours"] f fd)  :
    CalE P w K mg base CX0 1 "block_of" ["number", "colours"] (sp_block_of K) := by
  refine ⟨f, fd, D.F.ok sc_block_of (fun vs H Q E h => ?_) (fun cdv A outer s H vs Q E hr h => ?_), D.g, D.F.kp, D.b⟩
  · obtain ⟨n, c, rfl, _⟩ := h; rfl
  · obtain ⟨n, c, rfl, h0, h1, q⟩ := h
    refine ⟨_, (pss_cons (ps_set (i := 2) sc_block_of.nd rfl (Or.inl rfl) (pe_lst pa_nil))
 (pss_cons (ps_for PassesOwn.never rfl (pi_range1 (by rfl) B.range_ (pa_cons pe_int pa_nil)) (pg_name (i := 3) sc_block_of.nd rfl (Or.inl rfl))
 (pss_cons (ps_expr (pe_bm PySem.F.plainAttrs_list PySem.F.slot_list_append PySem.F.type_list_append mt_append (pv 2) (pa_cons (pe_op op_mod (pv 0) (pv 1)) pa_nil)))
 (pss_one (ps_set (i := 0) sc_block_of.nd rfl (Or.inl rfl) (pe_op op_fdiv (pv 0) (pv 1))))))
 (pss_one (ps_ret (RT.pe_tupRev (by rfl) (by rfl) B.tuple_ (by rfl) B.reversed_ (pv 2)))))), Go.at ?_⟩
    refine go_asgL (el_lst ea_nil (by decide)) fun p H1 hp e1 h1p => ?_
    refine go_forR1 (n := 4) (by walk_at "ea") (by decide) (fun i σ' H' => ∃ y, σ' = [some (.int (quo n c i)), some (.int c), some (.ref p), y] ∧ Ex H H' ∧ H' p = some (.lst ((digs n c i).map V.int)))
      (fun H2 e2 => ⟨_, rfl, e1.trans e2, e2 _ _ h1p⟩) (fun i σ' H' hi ⟨y, hσ, e, hl⟩ => ?_) (fun σ' H' ⟨y, hσ, e, hl⟩ => ?_)
    · subst hσ
      refine go_app hl (ev_var rfl) (v := .int (quo n c i % c)) (by walk_at "ev") (by rw [List.length_map, digs_len]; omega) fun H2 e2 => ?_
      refine gl_asg (v := .int (quo n c i / c)) (by walk_at "ev") fun H3 e3 => ⟨_, rfl, ((e.trans e2).mut hp).trans e3, ?_⟩
      rw [e3 _ _ upd_same, digs, List.map_append]
      rfl
    · subst hσ
      refine go_retU (eu_rev (ev_var rfl) (sq_of hl)) fun l H2 _ e2 hl2 => q _ H2 (e.trans e2) ⟨l, rfl, st_of ?_⟩
      rw [hl2]
      rfl
/-! #### _law_whole -/
def sp__law_whole (K : PySem.W.Frag) : Sp := fun vs H Q _ => ∃ (i : Int), vs = [.int i] ∧ RetV (.bl true) H Q
theorem spv__law_whole {K : PySem.W.Frag} {H : Hp} {i : Int} : SpV (sp__law_whole K) [.int i] H (.bl true) := fun H1 e Q q E => ⟨i, rfl, q⟩
local macro_rules | `(tactic| walk_at "sp") => `(tactic| exact spv__law_whole)
theorem cal__law_whole {P : Program} {w : World} {K : PySem.W.Frag} {mg : Str → Option Value} {base : Heap} {f : Addr} {fd : FuncData} (B : Bl mg) (D : DefAt K mg "_law_whole" s__law_whole ["found"] f fd)  :
    CalE P w K mg base CX0 1 "_law_whole" ["found"] (sp__law_whole K) := by
  refine ⟨f, fd, D.F.ok sc__law_whole (fun vs H Q E h => ?_) (fun cdv A outer s H vs Q E hr h => ?_), D.g, D.F.kp, D.b⟩
  · obtain ⟨i, rfl, _⟩ := h; rfl
  · obtain ⟨i, rfl, q⟩ := h
    refine ⟨_, (pss_one (ps_ret (pe_and (pe_callB call_isi (by rfl) B.isinstance_ (by decide +kernel) (pa_cons (pv 0) (pa_cons (pe_bltn (v := .ty "int") (by rfl) B.int_ (by decide +kernel) rfl) pa_nil))) (pe_one (pe_not (pe_callB call_isi (by rfl) B.isinstance_ (by decide +kernel) (pa_cons (pv 0) (pa_cons (pe_bltn (v := .ty "bool") (by rfl) B.bool_ (by decide +kernel) rfl) pa_nil)))))))), Go.at ?_⟩
    refine go_ret (ev_andV (a := true) (b := !false) ?_ (fun _ => ev_notV ?_)) q
    · exact ev_cb (ea_cons (ev_var rfl) (ea_cons ev_c ea_nil)) (rc_isi (.ty "int") (fun H1 _ => .base (.int i)) (kit_ty (by decide +kernel)))
    · exact ev_cb (ea_cons (ev_var rfl) (ea_cons ev_c ea_nil)) (rc_isi (.ty "bool") (fun H1 _ => .base (.int i)) (kit_ty (by decide +kernel)))
/-! #### number_of -/
def numM (r : List Int) (c : Int) : Int := r.foldl (fun a d => a * c + d) 0
theorem numM_take {r : List Int} {c : Int} {i : Nat} {x : Int} (h : r[i]? = some x) : numM (r.take (i + 1)) c = numM (r.take i) c * c + x := by
  unfold numM
  rw [List.take_add_one, h]
  simp
def sp_number_of (K : PySem.W.Frag) : Sp := fun vs H Q _ => ∃ (v : V) (r : List Int) (c : Int), vs = [v, .int c] ∧ RwV K r v H ∧ 0 ≤ c ∧ c ≤ 3 ∧ RetV (.int (numM r c)) H Q
theorem spv_number_of {K : PySem.W.Frag} {H : Hp} {v : V} {r : List Int} {c : Int} (h : RwV K r v H) (h0 : 0 ≤ c) (h1 : c ≤ 3) : SpV (sp_number_of K) [v, .int c] H (.int (numM r c)) :=
  fun H1 e Q q E => ⟨v, r, c, rfl, rw_imm r v H H1 (ExI.of e) h, h0, h1, q⟩
local macro_rules | `(tactic| walk_at "sp") => `(tactic| (refine' spv_number_of ?h1 ?h2 ?h3; (case h1 => assumption); (case h2 => walk_at "le"); (case h3 => walk_at "le")))
theorem cal_number_of {P : Program} {w : World} {K : PySem.W.Frag} {mg : Str → Option Value} {base : Heap} {f : Addr} {fd : FuncData} (B : Bl mg) (D : DefAt K mg "number_of" s_number_of ["block", "colours"] f fd)  :
    CalE P w K mg base CX0 1 "number_of" ["block", "colours"] (sp_number_of K) := by
  refine ⟨f, fd, D.F.ok sc_number_of (fun vs H Q E h => ?_) (fun cdv A outer s H vs Q E hr h => ?_), D.g, D.F.kp, D.b⟩
  · obtain ⟨v, r, c, rfl, _⟩ := h; rfl
  · obtain ⟨v, r, c, rfl, ⟨a, rfl, hS⟩, h0, h1, q⟩ := h
    refine ⟨_, (pss_cons (ps_set (i := 2) sc_number_of.nd rfl (Or.inl rfl) pe_int)
 (pss_cons (ps_for PassesOwn.never rfl (pi_tup (pv 0)) (pg_name (i := 3) sc_number_of.nd rfl (Or.inl rfl))
 (pss_one (ps_set (i := 2) sc_number_of.nd rfl (Or.inl rfl) (pe_op op_add (pe_op op_mul (pv 2) (pv 1)) (pv 3)))))
 (pss_one (ps_ret (pv 2))))), Go.at ?_⟩
    refine go_asg ev_c ?_
    refine go_forT (a := a) (ev_var rfl) hS (fun i σ' H' => ∃ y, σ' = [some (.ref a), some (.int c), some (.int (numM (r.take i) c)), y] ∧ Ex H H') (fun H1 e => ⟨_, rfl, e⟩)
      (fun i σ' H' _ ⟨y, _, e⟩ => ex_t e hS) (fun i x σ' H' hi ⟨y, hσ, e⟩ => ?_) (fun σ' H' ⟨y, hσ, e⟩ => ?_)
    · subst hσ
      rw [List.getElem?_map] at hi
      obtain ⟨z, hz, rfl⟩ := Option.map_eq_some_iff.mp hi
      refine gl_asg (v := .int (numM (r.take i) c * c + z)) (by walk_at "ev") (fun H1 e1 => ⟨some (.int z), ?_, e.trans e1⟩)
      rw [numM_take hz]
      rfl
    · subst hσ
      rw [List.length_map, List.take_length]
      exact go_ret (ev_var rfl) fun H1 e1 => q H1 (e.trans e1)
/-! #### turned_block -/
def mirB : List Int → List Int
  | [a, b, c, d] => [b, a, d, c]
  | r => r
def quaB : List Int → List Int
  | [a, b, c, d] => [c, a, d, b]
  | r => r
def itr {α : Type} (f : α → α) : Nat → α → α
  | 0, x => x
  | n + 1, x => f (itr f n x)
def turnB (t : Int) (r : List Int) : List Int := itr quaB (t % 4).toNat (if t > 3 then mirB r else r)
theorem quaB_len {r : List Int} (h : r.length = 4) : ∃ a b c d, r = [a, b, c, d] := by
  match r, h with
  | [a, b, c, d], _ => exact ⟨a, b, c, d, rfl⟩
theorem mirB_len {r : List Int} (h : r.length = 4) : (mirB r).length = 4 := by
  obtain ⟨a, b, c, d, rfl⟩ := quaB_len h
  rfl
theorem itr_len {r : List Int} (h : r.length = 4) : ∀ n, (itr quaB n r).length = 4
  | 0 => h
  | n + 1 => by
    obtain ⟨a, b, c, d, e⟩ := quaB_len (itr_len h n)
    rw [itr, e]
    rfl
theorem turnB_len {r : List Int} (h : r.length = 4) (t : Int) : (turnB t r).length = 4 := by
  unfold turnB
  refine itr_len ?_ _
  split
  · exact mirB_len h
  · exact h
def sp_turned_block (K : PySem.W.Frag) : Sp := fun vs H Q _ => ∃ (v : V) (r : List Int) (t : Int), vs = [v, .int t] ∧ RwV K r v H ∧ r.length = 4 ∧ RetP (RwV K (turnB t r)) H Q
theorem spp_turned_block {K : PySem.W.Frag} {H : Hp} {v : V} {r : List Int} {t : Int} (h : RwV K r v H) (hl : r.length = 4) : SpP (sp_turned_block K) [v, .int t] H (RwV K (turnB t r)) :=
  fun H1 e Q q E => ⟨v, r, t, rfl, rw_imm r v H H1 (ExI.of e) h, hl, q⟩
theorem mod4_le (t : Int) : 0 ≤ t % 4 ∧ t % 4 ≤ 100000 := ⟨Int.emod_nonneg _ (by decide), by have := Int.emod_lt_of_pos t (show (0 : Int) < 4 by decide); omega⟩
theorem cal_turned_block {P : Program} {w : World} {K : PySem.W.Frag} {mg : Str → Option Value} {base : Heap} {f : Addr} {fd : FuncData} (B : Bl mg) (D : DefAt K mg "turned_block" s_turned_block ["block", "turning"] f fd)  :
    CalE P w K mg base CX0 1 "turned_block" ["block", "turning"] (sp_turned_block K) := by
  refine ⟨f, fd, D.F.ok sc_turned_block (fun vs H Q E h => ?_) (fun cdv A outer s H vs Q E hr h => ?_), D.g, D.F.kp, D.b⟩
  · obtain ⟨v, r, t, rfl, _⟩ := h; rfl
  · obtain ⟨v, r, t, rfl, hv, hl, q⟩ := h
    refine ⟨_, (pss_cut (ps_if (pt_cmpR op_gt (pv 1) pe_int (nomark _)) (pss_one (ps_set (i := 0) sc_turned_block.nd rfl (Or.inl rfl) (pe_tup (pa_cons (pe_ix ix_tup (pv 0) pe_int (fun _ _ => rfl)) (pa_cons (pe_ix ix_tup (pv 0) pe_int (fun _ _ => rfl)) (pa_cons (pe_ix ix_tup (pv 0) pe_int (fun _ _ => rfl)) (pa_cons (pe_ix ix_tup (pv 0) pe_int (fun _ _ => rfl)) pa_nil))))))) pss_nil)
 (pss_cons (ps_for PassesOwn.never rfl (pi_range1 (by rfl) B.range_ (pa_cons (pe_op op_mod (pv 1) pe_int) pa_nil)) (pg_name (i := 2) sc_turned_block.nd rfl (Or.inl rfl))
 (pss_one (ps_set (i := 0) sc_turned_block.nd rfl (Or.inl rfl) (pe_tup (pa_cons (pe_ix ix_tup (pv 0) pe_int (fun _ _ => rfl)) (pa_cons (pe_ix ix_tup (pv 0) pe_int (fun _ _ => rfl)) (pa_cons (pe_ix ix_tup (pv 0) pe_int (fun _ _ => rfl)) (pa_cons (pe_ix ix_tup (pv 0) pe_int (fun _ _ => rfl)) pa_nil))))))))
 (pss_one (ps_ret (pv 0))))), Go.at ?_⟩
    refine go_cutIfd (p := t > 3) (fun σ' H' => ∃ v' r', σ' = [some v', some (.int t), none] ∧ Ex H H' ∧ RwV K r' v' H' ∧ r'.length = 4 ∧ turnB t r = itr quaB (t % 4).toNat r') (by walk_at "et") (fun ht => ?_) (fun ht => ?_) (fun σ' H1 ⟨v', r', hσ, e1, hv', hl', et⟩ => ?_)
    · obtain ⟨a, b, c, d, rfl⟩ := quaB_len hl
      obtain ⟨p, rfl, hs⟩ := hv
      refine gl_asgU (eu_tup (vs := [.int b, .int a, .int d, .int c]) (ea_cons (ev_ixT (ev_var rfl) ev_c hs rfl) (ea_cons (ev_ixT (ev_var rfl) ev_c hs rfl) (ea_cons (ev_ixT (ev_var rfl) ev_c hs rfl) (ea_cons (ev_ixT (ev_var rfl) ev_c hs rfl) ea_nil)))) (by show (4 : Nat) ≤ 100000; decide)) fun p1 H1 _ e1 h1 => fun H2 e2 => ?_
      exact ⟨.ref p1, [b, a, d, c], rfl, e1.trans e2, ⟨p1, rfl, ex_t e2 (st_of h1)⟩, rfl, by unfold turnB; rw [if_pos ht]; rfl⟩
    · exact fun H1 e1 => ⟨v, r, rfl, e1, rw_imm _ _ _ _ (ExI.of e1) hv, hl, by unfold turnB; rw [if_neg ht]⟩
    · subst hσ
      refine go_forR1 (n := t % 4) (by walk_at "ea") (mod4_le t) (fun i σ' H' => ∃ v' y, σ' = [some v', some (.int t), y] ∧ Ex H H' ∧ RwV K (itr quaB i r') v' H')
        (fun H2 e2 => ⟨v', none, rfl, e1.trans e2, rw_imm _ _ _ _ (ExI.of e2) hv'⟩) (fun i σ' H' hi ⟨v2, y2, hσ, e, hv2⟩ => ?_) (fun σ' H' ⟨v2, y2, hσ, e, hv2⟩ => ?_)
      · subst hσ
        obtain ⟨a, b, c, d, er⟩ := quaB_len (itr_len hl' i)
        rw [er] at hv2
        obtain ⟨p, rfl, hs⟩ := hv2
        refine gl_asgU (eu_tup (vs := [.int c, .int a, .int d, .int b]) (ea_cons (ev_ixT (ev_var rfl) ev_c hs rfl) (ea_cons (ev_ixT (ev_var rfl) ev_c hs rfl) (ea_cons (ev_ixT (ev_var rfl) ev_c hs rfl) (ea_cons (ev_ixT (ev_var rfl) ev_c hs rfl) ea_nil)))) (by show (4 : Nat) ≤ 100000; decide)) fun p1 H2 _ e2 h2 => ?_
        intro H3 e3
        refine ⟨.ref p1, some (.int i), rfl, (e.trans e2).trans e3, p1, rfl, ?_⟩
        rw [itr, er]
        exact ex_t e3 (st_of h2)
      · subst hσ
        rw [← et] at hv2
        exact go_retP (ep_of (ev_var rfl) fun H2 e2 => rw_imm _ _ _ _ (ExI.of e2) hv2) fun v H2 e2 p => q v H2 (e.trans e2) p
/-! #### other_colours -/
def sp_other_colours (K : PySem.W.Frag) : Sp := fun vs H Q _ => ∃ (v : V) (r : List Int), vs = [v] ∧ RwV K r v H ∧ r.length ≤ 1000 ∧ RetP (RwV K (r.map fun x => 1 - x)) H Q
theorem spp_other_colours {K : PySem.W.Frag} {H : Hp} {v : V} {r : List Int} (h : RwV K r v H) (hl : r.length ≤ 1000) : SpP (sp_other_colours K) [v] H (RwV K (r.map fun x => 1 - x)) :=
  fun H1 e Q q E => ⟨v, r, rfl, rw_imm r v H H1 (ExI.of e) h, hl, q⟩
theorem cal_other_colours {P : Program} {w : World} {K : PySem.W.Frag} {mg : Str → Option Value} {base : Heap} {f : Addr} {fd : FuncData} (B : Bl mg) (D : DefAt K mg "other_colours" s_other_colours ["block"] f fd)  :
    CalE P w K mg base CX0 1 "other_colours" ["block"] (sp_other_colours K) := by
  refine ⟨f, fd, D.F.ok sc_other_colours (fun vs H Q E h => ?_) (fun cdv A outer s H vs Q E hr h => ?_), D.g, D.F.kp, D.b⟩
  · obtain ⟨v, r, rfl, _⟩ := h; rfl
  · obtain ⟨v, r, rfl, ⟨p, rfl, hs⟩, hl, q⟩ := h
    refine ⟨_, (pss_one (ps_ret (pe_callTy call_tupS (by rfl) B.tuple_ (by decide +kernel) (pa_cons (pe_lc (own := [("colour", 1)]) (g := gName 1) (by rfl) sc_other_colours.nd (pi_tup (pv 0)) (blkOk_by (own := [("colour", 1)]) (N := ["block", "colour"]) (sc := defScope s_other_colours) (by decide +kernel)) (fun _ _ _ _ _ => pg_name (i := 1) sc_other_colours.nd rfl (Or.inl rfl)) (fun _ _ _ _ _ => pts_nil) (fun _ _ _ _ _ => (pe_op op_sub pe_int (pv 1)))) pa_nil)))), Go.at ?_⟩
    refine go_retU (eu_tupL (el_mapT (fun x => .int (1 - x)) (ev_var rfl) hs (by omega) (fun _ => rfl) (fun x _ => by walk_at "ev"))) fun l H1 _ e1 h1 => q _ H1 e1 ⟨l, rfl, st_of ?_⟩
    rw [h1, List.map_map]
    rfl
/-! #### billiard -/
def sumB (r : List Int) : Int := r.sum
def billM (r : List Int) : List Int := if r.sum = 1 then turnB 2 r else if r = [1, 0, 0, 1] ∨ r = [0, 1, 1, 0] then r.map (fun x => 1 - x) else r
theorem billM_len {r : List Int} (h : r.length = 4) : (billM r).length = 4 := by
  unfold billM
  split
  · exact turnB_len h 2
  · split
    · rw [List.length_map, h]
    · exact h
def sp_billiard (K : PySem.W.Frag) : Sp := fun vs H Q _ => ∃ (v : V) (r : List Int), vs = [v] ∧ RwV K r v H ∧ r.length = 4 ∧ RetP (RwV K (billM r)) H Q
theorem spp_billiard {K : PySem.W.Frag} {H : Hp} {v : V} {r : List Int} (h : RwV K r v H) (hl : r.length = 4) : SpP (sp_billiard K) [v] H (RwV K (billM r)) :=
  fun H1 e Q q E => ⟨v, r, rfl, rw_imm r v H H1 (ExI.of e) h, hl, q⟩
theorem ev_isU {K : PySem.W.Frag} {σ : L2.St} {H : Hp} {ta tb : TE} {v : V} {r s : List Int} (ha : Ev ta σ H v) (hv : RwV K r v H) (hb : EvU tb σ H (s.map V.int)) : Ev (tOp (rEqD K) ta tb) σ H (.bl (decide (r = s))) :=
  ev_opV ha hb fun q H1 hq e => rv_eqT (rw_imm _ _ _ _ (ExI.of e) hv) ⟨q, rfl, st_of hq⟩
theorem cal_billiard {P : Program} {w : World} {K : PySem.W.Frag} {mg : Str → Option Value} {base : Heap} {f : Addr} {fd : FuncData} (B : Bl mg) (D : DefAt K mg "billiard" s_billiard ["block"] f fd) (C_turned_block : CalE P w K mg base CX0 1 "turned_block" ["block", "turning"] (sp_turned_block K)) (C_other_colours : CalE P w K mg base CX0 1 "other_colours" ["block"] (sp_other_colours K)) :
    CalE P w K mg base CX0 2 "billiard" ["block"] (sp_billiard K) := by
  obtain ⟨f_turned_block, fd_turned_block, G_turned_block, g_turned_block, k_turned_block, b_turned_block⟩ := C_turned_block.ex
  obtain ⟨f_other_colours, fd_other_colours, G_other_colours, g_other_colours, k_other_colours, b_other_colours⟩ := C_other_colours.ex
  refine ⟨f, fd, D.F.ok sc_billiard (fun vs H Q E h => ?_) (fun cdv A outer s H vs Q E hr h => ?_), D.g, D.F.kp, D.b⟩
  · obtain ⟨v, r, rfl, _⟩ := h; rfl
  · obtain ⟨v, r, rfl, hv, hl, q⟩ := h
    have hv0 := hv
    obtain ⟨p, rfl, hs⟩ := hv0
    refine ⟨_, (pss_cons (ps_if (pt_cmpR op_eq (pe_callB (cr_sumT rfl) (by rfl) B.sum_ (by decide +kernel) (pa_cons (pv 0) pa_nil)) pe_int (nomark _)) (pss_one (ps_ret (pe_call G_turned_block (hr.mono (by decide)) (by rfl) g_turned_block k_turned_block b_turned_block .nil pass0 (pa_cons (pv 0) (pa_cons pe_int pa_nil))))) pss_nil)
 (pss_cons (ps_if (PW.pt (pw_or (pt_cmpR (op_eqD hr.units) (pv 0) (pe_tup (pa_cons pe_int (pa_cons pe_int (pa_cons pe_int (pa_cons pe_int pa_nil))))) (nomark _)) (pw_or1 (pt_cmpR (op_eqD hr.units) (pv 0) (pe_tup (pa_cons pe_int (pa_cons pe_int (pa_cons pe_int (pa_cons pe_int pa_nil))))) (nomark _))))) (pss_one (ps_ret (pe_call G_other_colours (hr.mono (by decide)) (by rfl) g_other_colours k_other_colours b_other_colours .nil pass0 (pa_cons (pv 0) pa_nil)))) pss_nil)
 (pss_one (ps_ret (pv 0))))), Go.at ?_⟩
    refine go_when (p := r.sum = 1) (by walk_at "et") (fun h1 => ?_) (fun h1 => ?_)
    · refine go_retP (ep_call (ea_cons (ev_var rfl) (ea_cons ev_c ea_nil)) (spp_turned_block hv hl)) fun v H1 e1 p => q v H1 e1 ?_
      unfold billM
      rw [if_pos h1]
      exact p
    · refine go_whenb (et_or (et_test (ev_isU (s := [1, 0, 0, 1]) (ev_var rfl) hv (eu_tup (by walk_at "ea") (by decide)))) (fun _ => et_test (ev_isU (s := [0, 1, 1, 0]) (ev_var rfl) hv (eu_tup (by walk_at "ea") (by decide))))) (fun h2 => ?_) (fun h2 => ?_)
      · refine go_retP (ep_call (ea_cons (ev_var rfl) ea_nil) (spp_other_colours hv (by omega))) fun v H1 e1 p => q v H1 e1 ?_
        unfold billM
        rw [if_neg h1, if_pos (by simpa using h2)]
        exact p
      · refine go_retP (ep_of (ev_var rfl) fun H2 e2 => rw_imm _ _ _ _ (ExI.of e2) hv) fun v H2 e2 p => q v H2 e2 ?_
        unfold billM
        rw [if_neg h1, if_neg (by simpa using h2)]
        exact p
/-! #### critters -/
def critM (r : List Int) : List Int := if r.sum = 2 then r else if r.sum = 3 then turnB 2 (r.map fun x => 1 - x) else r.map fun x => 1 - x
theorem critM_len {r : List Int} (h : r.length = 4) : (critM r).length = 4 := by
  unfold critM
  split
  · exact h
  · split
    · exact turnB_len (by rw [List.length_map, h]) 2
    · rw [List.length_map, h]
def sp_critters (K : PySem.W.Frag) : Sp := fun vs H Q _ => ∃ (v : V) (r : List Int), vs = [v] ∧ RwV K r v H ∧ r.length = 4 ∧ RetP (RwV K (critM r)) H Q
theorem spp_critters {K : PySem.W.Frag} {H : Hp} {v : V} {r : List Int} (h : RwV K r v H) (hl : r.length = 4) : SpP (sp_critters K) [v] H (RwV K (critM r)) :=
  fun H1 e Q q E => ⟨v, r, rfl, rw_imm r v H H1 (ExI.of e) h, hl, q⟩
theorem cal_critters {P : Program} {w : World} {K : PySem.W.Frag} {mg : Str → Option Value} {base : Heap} {f : Addr} {fd : FuncData} (B : Bl mg) (D : DefAt K mg "critters" s_critters ["block"] f fd) (C_other_colours : CalE P w K mg base CX0 1 "other_colours" ["block"] (sp_other_colours K)) (C_turned_block : CalE P w K mg base CX0 1 "turned_block" ["block", "turning"] (sp_turned_block K)) :
    CalE P w K mg base CX0 2 "critters" ["block"] (sp_critters K) := by
  obtain ⟨f_other_colours, fd_other_colours, G_other_colours, g_other_colours, k_other_colours, b_other_colours⟩ := C_other_colours.ex
  obtain ⟨f_turned_block, fd_turned_block, G_turned_block, g_turned_block, k_turned_block, b_turned_block⟩ := C_turned_block.ex
  refine ⟨f, fd, D.F.ok sc_critters (fun vs H Q E h => ?_) (fun cdv A outer s H vs Q E hr h => ?_), D.g, D.F.kp, D.b⟩
  · obtain ⟨v, r, rfl, _⟩ := h; rfl
  · obtain ⟨v, r, rfl, hv, hl, q⟩ := h
    have hv0 := hv
    obtain ⟨p, rfl, hs⟩ := hv0
    refine ⟨_, (pss_cons (ps_if (pt_cmpR op_eq (pe_callB (cr_sumT rfl) (by rfl) B.sum_ (by decide +kernel) (pa_cons (pv 0) pa_nil)) pe_int (nomark _)) (pss_one (ps_ret (pv 0))) pss_nil)
 (pss_cons (ps_if (pt_cmpR op_eq (pe_callB (cr_sumT rfl) (by rfl) B.sum_ (by decide +kernel) (pa_cons (pv 0) pa_nil)) pe_int (nomark _)) (pss_one (ps_ret (pe_call G_turned_block (hr.mono (by decide)) (by rfl) g_turned_block k_turned_block b_turned_block .nil pass0 (pa_cons (pe_call G_other_colours (hr.mono (by decide)) (by rfl) g_other_colours k_other_colours b_other_colours .nil pass0 (pa_cons (pv 0) pa_nil)) (pa_cons pe_int pa_nil))))) pss_nil)
 (pss_one (ps_ret (pe_call G_other_colours (hr.mono (by decide)) (by rfl) g_other_colours k_other_colours b_other_colours .nil pass0 (pa_cons (pv 0) pa_nil)))))), Go.at ?_⟩
    have ho : EvP (tCall (sp_other_colours K) [] E0 (tCons (tVar 0) tNil)) (L2.start ["block"] [V.ref p]) H (RwV K (r.map fun x => 1 - x)) := ep_call (ea_cons (ev_var rfl) ea_nil) (spp_other_colours hv (by omega))
    refine go_when (p := r.sum = 2) (by walk_at "et") (fun h1 => ?_) (fun h1 => ?_)
    · refine go_retP (ep_of (ev_var rfl) fun H2 e2 => rw_imm _ _ _ _ (ExI.of e2) hv) fun v H2 e2 p => q v H2 e2 ?_
      unfold critM
      rw [if_pos h1]
      exact p
    · refine go_when (p := r.sum = 3) (by walk_at "et") (fun h2 => ?_) (fun h2 => ?_)
      · refine go_retP (ep_callP (eap_cons (rw_imm _).mono ho (eap_of (P := fun vs _ => vs = [.int 2]) (ea_cons ev_c ea_nil) (fun _ _ => rfl)) (S := fun vs H1 => ∃ v, vs = [v, .int 2] ∧ RwV K (r.map fun x => 1 - x) v H1) (fun v vs H1 _ hp hvs => ⟨v, by rw [hvs], hp⟩))
          (fun vs H1 e1 ⟨v, hvs, hp⟩ => by rw [hvs]; exact spp_turned_block hp (by rw [List.length_map, hl]))) fun v H1 e1 p => q v H1 e1 ?_
        unfold critM
        rw [if_neg h1, if_pos h2]
        exact p
      · refine go_retP ho fun v H1 e1 p => q v H1 e1 ?_
        unfold critM
        rw [if_neg h1, if_neg h2]
        exact p
/-! #### named -/
def nmM (k : Int) : Str := if k = 0 then "turn" else if k = 1 then "billiard" else "critters"
def stepM (k : Int) (b : List Int) : List Int := if k = 0 then turnB 1 b else if k = 1 then billM b else critM b
theorem stepM_len (k : Int) {b : List Int} (h : b.length = 4) : (stepM k b).length = 4 := by
  unfold stepM
  split
  · exact turnB_len h 1
  · split
    · exact billM_len h
    · exact critM_len h
def rulM (k : Int) (n : Int) : Int := numM (stepM k (blockM n 2)) 2
def sp_named (K : PySem.W.Frag) : Sp := fun vs H Q _ => ∃ (k : Int), vs = [.str (nmM k)] ∧ 0 ≤ k ∧ k ≤ 2 ∧ RetL ((ranI 16 (rulM k)).map V.int) H Q
theorem spl_named {K : PySem.W.Frag} {H : Hp} {k : Int} (h0 : 0 ≤ k) (h1 : k ≤ 2) : SpL (sp_named K) [.str (nmM k)] H ((ranI 16 (rulM k)).map V.int) := fun H1 e Q q E => ⟨k, rfl, h0, h1, q⟩
theorem nm0 (k : Int) : nmM k = "turn" ↔ k = 0 := by
  unfold nmM
  split
  · simp [*]
  · split
    · simp only [*, iff_false]; decide +kernel
    · simp only [*, iff_false]; decide +kernel
theorem nm1 {k : Int} (h : ¬ k = 0) : nmM k = "billiard" ↔ k = 1 := by
  unfold nmM
  rw [if_neg h]
  split
  · simp [*]
  · simp only [*, iff_false]; decide +kernel
theorem cal_named {P : Program} {w : World} {K : PySem.W.Frag} {mg : Str → Option Value} {base : Heap} {f : Addr} {fd : FuncData} (B : Bl mg) (D : DefAt K mg "named" s_named ["name"] f fd) (C_block_of : CalE P w K mg base CX0 1 "block_of" ["number", "colours"] (sp_block_of K)) (C_turned_block : CalE P w K mg base CX0 1 "turned_block" ["block", "turning"] (sp_turned_block K)) (C_billiard : CalE P w K mg base CX0 2 "billiard" ["block"] (sp_billiard K)) (C_critters : CalE P w K mg base CX0 2 "critters" ["block"] (sp_critters K)) (C_number_of : CalE P w K mg base CX0 1 "number_of" ["block", "colours"] (sp_number_of K)) :
    CalE P w K mg base CX0 3 "named" ["name"] (sp_named K) := by
  obtain ⟨f_block_of, fd_block_of, G_block_of, g_block_of, k_block_of, b_block_of⟩ := C_block_of.ex
  obtain ⟨f_turned_block, fd_turned_block, G_turned_block, g_turned_block, k_turned_block, b_turned_block⟩ := C_turned_block.ex
  obtain ⟨f_billiard, fd_billiard, G_billiard, g_billiard, k_billiard, b_billiard⟩ := C_billiard.ex
  obtain ⟨f_critters, fd_critters, G_critters, g_critters, k_critters, b_critters⟩ := C_critters.ex
  obtain ⟨f_number_of, fd_number_of, G_number_of, g_number_of, k_number_of, b_number_of⟩ := C_number_of.ex
  refine ⟨f, fd, D.F.ok sc_named (fun vs H Q E h => ?_) (fun cdv A outer s H vs Q E hr h => ?_), D.g, D.F.kp, D.b⟩
  · obtain ⟨k, rfl, _⟩ := h; rfl
  · obtain ⟨k, rfl, h0, h1, q⟩ := h
    refine ⟨_, (pss_cons (ps_set (i := 1) sc_named.nd rfl (Or.inl rfl) (pe_lst pa_nil))
 (pss_cons (ps_for PassesOwn.never rfl (pi_range1 (by rfl) B.range_ (pa_cons pe_int pa_nil)) (pg_name (i := 2) sc_named.nd rfl (Or.inl rfl))
 (pss_cons (ps_set (i := 3) sc_named.nd rfl (Or.inl rfl) (pe_call G_block_of (hr.mono (by decide)) (by rfl) g_block_of k_block_of b_block_of .nil pass0 (pa_cons (pv 2) (pa_cons pe_int pa_nil))))
 (pss_cut (ps_if (pt_cmpR op_eq (pv 0) pe_str (nomark _)) (pss_one (ps_set (i := 3) sc_named.nd rfl (Or.inl rfl) (pe_call G_turned_block (hr.mono (by decide)) (by rfl) g_turned_block k_turned_block b_turned_block .nil pass0 (pa_cons (pv 3) (pa_cons pe_int pa_nil))))) (pss_one (ps_if (pt_cmpR op_eq (pv 0) pe_str (nomark _)) (pss_one (ps_set (i := 3) sc_named.nd rfl (Or.inl rfl) (pe_call G_billiard (hr.mono (by decide)) (by rfl) g_billiard k_billiard b_billiard .nil pass0 (pa_cons (pv 3) pa_nil)))) (pss_one (ps_set (i := 3) sc_named.nd rfl (Or.inl rfl) (pe_call G_critters (hr.mono (by decide)) (by rfl) g_critters k_critters b_critters .nil pass0 (pa_cons (pv 3) pa_nil)))))))
 (pss_one (ps_expr (pe_bm PySem.F.plainAttrs_list PySem.F.slot_list_append PySem.F.type_list_append mt_append (pv 1) (pa_cons (pe_call G_number_of (hr.mono (by decide)) (by rfl) g_number_of k_number_of b_number_of .nil pass0 (pa_cons (pv 3) (pa_cons pe_int pa_nil))) pa_nil)))))))
 (pss_one (ps_ret (pv 1))))), Go.at ?_⟩
    refine go_asgL (el_lst ea_nil (by decide)) fun p H1 hp e1 h1p => ?_
    refine go_forR1 (n := 16) (by walk_at "ea") (by decide) (fun i σ' H' => ∃ y z, σ' = [some (.str (nmM k)), some (.ref p), y, z] ∧ Ex H H' ∧ H' p = some (.lst ((ranI i (rulM k)).map V.int)))
      (fun H2 e2 => ⟨_, _, rfl, e1.trans e2, e2 _ _ h1p⟩) (fun i σ' H' hi ⟨y, z, hσ, e, hl⟩ => ?_) (fun σ' H' ⟨y, z, hσ, e, hl⟩ => ?_)
    · subst hσ
      refine go_asgP (ep_call (by walk_at "ea") (spp_block_of (n := i) (c := 2) (by decide) (by decide))) fun v H2 e2 hv => ?_
      refine go_cutIfd (p := nmM k = "turn") (fun σ' H' => ∃ v, σ' = [some (.str (nmM k)), some (.ref p), some (.int i), some v] ∧ Ex H H' ∧ H' p = some (.lst ((ranI i (rulM k)).map V.int)) ∧ RwV K (stepM k (blockM i 2)) v H')
        (by walk_at "et") (fun ht => ?_) (fun ht => ?_) (fun σ' H3 ⟨v, hσ, e3, hl3, hv3⟩ => ?_)
      · refine gl_asgP (ep_call (by walk_at "ea") (spp_turned_block (t := 1) hv rfl)) fun v H3 e3 hv3 => fun H4 e4 => ⟨v, rfl, ((e.trans e2).trans e3).trans e4, e4 _ _ (e3 _ _ (e2 _ _ hl)), ?_⟩
        unfold stepM
        rw [if_pos ((nm0 k).mp ht)]
        exact rw_imm _ _ _ _ (ExI.of e4) hv3
      · have k0 : ¬ k = 0 := fun z => ht ((nm0 k).mpr z)
        refine gl_ifd (p := nmM k = "billiard") (by walk_at "et") (fun hb => ?_) (fun hb => ?_)
        · refine gl_asgP (ep_call (by walk_at "ea") (spp_billiard hv rfl)) fun v H3 e3 hv3 => fun H4 e4 => ⟨v, rfl, ((e.trans e2).trans e3).trans e4, e4 _ _ (e3 _ _ (e2 _ _ hl)), ?_⟩
          unfold stepM
          rw [if_neg k0, if_pos ((nm1 k0).mp hb)]
          exact rw_imm _ _ _ _ (ExI.of e4) hv3
        · refine gl_asgP (ep_call (by walk_at "ea") (spp_critters hv rfl)) fun v H3 e3 hv3 => fun H4 e4 => ⟨v, rfl, ((e.trans e2).trans e3).trans e4, e4 _ _ (e3 _ _ (e2 _ _ hl)), ?_⟩
          unfold stepM
          rw [if_neg k0, if_neg (fun z => hb ((nm1 k0).mpr z))]
          exact rw_imm _ _ _ _ (ExI.of e4) hv3
      · subst hσ
        refine gl_app hl3 (ev_var rfl) (v := .int (rulM k i)) (ev_call (by walk_at "ea") (spv_number_of (c := 2) hv3 (by decide) (by decide))) (by rw [List.length_map, len_ranI]; omega) fun H4 e4 => fun H5 e5 => ⟨_, _, rfl, ((e3.trans e4).mut hp).trans e5, ?_⟩
        rw [e5 _ _ upd_same, ranI_succ, List.map_append]
        rfl
    · subst hσ
      exact go_ret (ev_var rfl) fun H2 e2 => q p H2 hp (e.trans e2) (e2 _ _ hl)
/-! #### _law_named -/
def bitsN (n : Int) : List Int := [n / 8 % 2, n / 4 % 2, n / 2 % 2, n % 2]
def na1 (k : Int) (r : List Int) : List Int := if k = 0 then [at0 r 2, at0 r 0, at0 r 3, at0 r 1] else r
def na2 (k : Int) (r : List Int) : List Int := if k = 1 ∧ r.sum = 1 then r.reverse else if k = 1 ∧ at0 r 0 = at0 r 3 ∧ at0 r 1 = at0 r 2 ∧ r.sum = 2 then r.map (fun x => 1 - x) else r
def na3 (k : Int) (r : List Int) : List Int := if k = 2 ∧ r.sum ≠ 2 then (if r.sum = 3 then (r.map (fun x => 1 - x)).reverse else r.map (fun x => 1 - x)) else r
def nameN (k n : Int) : Int := let r := na3 k (na2 k (na1 k (bitsN n))); 8 * at0 r 0 + 4 * at0 r 1 + 2 * at0 r 2 + at0 r 3
theorem na1_len (k n : Int) : (na1 k (bitsN n)).length = 4 := by unfold na1; split <;> rfl
theorem na2_len (k : Int) {r : List Int} (h : r.length = 4) : (na2 k r).length = 4 := by
  unfold na2
  split
  · rw [List.length_reverse, h]
  · split
    · rw [List.length_map, h]
    · exact h
theorem na3_len (k : Int) {r : List Int} (h : r.length = 4) : (na3 k r).length = 4 := by
  unfold na3
  split
  · split
    · rw [List.length_reverse, List.length_map, h]
    · rw [List.length_map, h]
  · exact h
def sp__law_named (K : PySem.W.Frag) : Sp := fun vs H Q _ => ∃ (k n : Int), vs = [.int k, .int n] ∧ RetV (.int (nameN k n)) H Q
theorem spv__law_named {K : PySem.W.Frag} {H : Hp} {k n : Int} : SpV (sp__law_named K) [.int k, .int n] H (.int (nameN k n)) := fun H1 e Q q E => ⟨k, n, rfl, q⟩
local macro_rules | `(tactic| walk_at "sp") => `(tactic| exact spv__law_named)
theorem cal__law_named {P : Program} {w : World} {K : PySem.W.Frag} {mg : Str → Option Value} {base : Heap} {f : Addr} {fd : FuncData} (B : Bl mg) (D : DefAt K mg "_law_named" s__law_named ["kind", "number"] f fd)  :
    CalE P w K mg base CX0 1 "_law_named" ["kind", "number"] (sp__law_named K) := by
  refine ⟨f, fd, D.F.ok sc__law_named (fun vs H Q E h => ?_) (fun cdv A outer s H vs Q E hr h => ?_), D.g, D.F.kp, D.b⟩
  · obtain ⟨k, n, rfl, _⟩ := h; rfl
  · obtain ⟨k, n, rfl, q⟩ := h
    refine ⟨_, (pss_cons (ps_set (i := 2) sc__law_named.nd rfl (Or.inl rfl) (pe_lst (pa_cons (pe_op op_mod (pe_op op_fdiv (pv 1) pe_int) pe_int) (pa_cons (pe_op op_mod (pe_op op_fdiv (pv 1) pe_int) pe_int) (pa_cons (pe_op op_mod (pe_op op_fdiv (pv 1) pe_int) pe_int) (pa_cons (pe_op op_mod (pv 1) pe_int) pa_nil))))))
 (pss_cut (ps_if (pt_cmpR op_eq (pv 0) pe_int (nomark _)) (pss_one (ps_set (i := 2) sc__law_named.nd rfl (Or.inl rfl) (pe_lst (pa_cons (pe_ix ix_list (pv 2) pe_int (fun _ _ => rfl)) (pa_cons (pe_ix ix_list (pv 2) pe_int (fun _ _ => rfl)) (pa_cons (pe_ix ix_list (pv 2) pe_int (fun _ _ => rfl)) (pa_cons (pe_ix ix_list (pv 2) pe_int (fun _ _ => rfl)) pa_nil))))))) pss_nil)
 (pss_cut (ps_if (PW.pt (pw_and (pt_cmpR op_eq (pv 0) pe_int (nomark _)) (pw_and1 (pt_cmpR op_eq (pe_callB (cr_sum rfl) (by rfl) B.sum_ (by decide +kernel) (pa_cons (pv 2) pa_nil)) pe_int (nomark _))))) (pss_one (ps_expr (pe_bm0 PySem.F.plainAttrs_list PySem.F.slot_list_reverse PySem.F.type_list_reverse mt_reverse (pv 2)))) (pss_one (ps_if (PW.pt (pw_and (pt_cmpR op_eq (pv 0) pe_int (nomark _)) (pw_and (pt_cmpR op_eq (pe_ix ix_list (pv 2) pe_int (fun _ _ => rfl)) (pe_ix ix_list (pv 2) pe_int (fun _ _ => rfl)) (nomark _)) (pw_and (pt_cmpR op_eq (pe_ix ix_list (pv 2) pe_int (fun _ _ => rfl)) (pe_ix ix_list (pv 2) pe_int (fun _ _ => rfl)) (nomark _)) (pw_and1 (pt_cmpR op_eq (pe_callB (cr_sum rfl) (by rfl) B.sum_ (by decide +kernel) (pa_cons (pv 2) pa_nil)) pe_int (nomark _))))))) (pss_one (ps_setLc (i := 2) (own := [("bit", 4)]) (g := gName 4) (by rfl) sc__law_named.nd rfl rfl (sw_true rfl rfl rfl (by decide +kernel)) (pi_list (pv 2)) (blkOk_by (own := [("bit", 4)]) (N := ["kind", "number", "bits", "three", "bit"]) (sc := defScope s__law_named) (by decide +kernel)) (fun _ _ _ _ _ => pg_name (i := 4) sc__law_named.nd rfl (Or.inl rfl)) (fun _ _ _ _ _ => pts_nil) (fun _ _ _ _ _ => (pe_op op_sub pe_int (pv 4))))) pss_nil)))
 (pss_cut (ps_if (PW.pt (pw_and (pt_cmpR op_eq (pv 0) pe_int (nomark _)) (pw_and1 (pt_cmpR op_ne (pe_callB (cr_sum rfl) (by rfl) B.sum_ (by decide +kernel) (pa_cons (pv 2) pa_nil)) pe_int (nomark _))))) (pss_cons (ps_set (i := 3) sc__law_named.nd rfl (Or.inl rfl) (pe_cmpR op_eq (pe_callB (cr_sum rfl) (by rfl) B.sum_ (by decide +kernel) (pa_cons (pv 2) pa_nil)) pe_int (nomark _)))
 (pss_cons (ps_setLc (i := 2) (own := [("bit", 4)]) (g := gName 4) (by rfl) sc__law_named.nd rfl rfl (sw_true rfl rfl rfl (by decide +kernel)) (pi_list (pv 2)) (blkOk_by (own := [("bit", 4)]) (N := ["kind", "number", "bits", "three", "bit"]) (sc := defScope s__law_named) (by decide +kernel)) (fun _ _ _ _ _ => pg_name (i := 4) sc__law_named.nd rfl (Or.inl rfl)) (fun _ _ _ _ _ => pts_nil) (fun _ _ _ _ _ => (pe_op op_sub pe_int (pv 4))))
 (pss_one (ps_if (pt_val (pv 3)) (pss_one (ps_expr (pe_bm0 PySem.F.plainAttrs_list PySem.F.slot_list_reverse PySem.F.type_list_reverse mt_reverse (pv 2)))) pss_nil)))) pss_nil)
 (pss_one (ps_ret (pe_op op_add (pe_op op_add (pe_op op_add (pe_op op_mul pe_int (pe_ix ix_list (pv 2) pe_int (fun _ _ => rfl))) (pe_op op_mul pe_int (pe_ix ix_list (pv 2) pe_int (fun _ _ => rfl)))) (pe_op op_mul pe_int (pe_ix ix_list (pv 2) pe_int (fun _ _ => rfl)))) (pe_ix ix_list (pv 2) pe_int (fun _ _ => rfl))))))))), Go.at ?_⟩
    refine go_asgL (xs := (bitsN n).map V.int) (el_lst (by walk_at "ea") (by show (4 : Nat) ≤ 100000; decide)) fun p H1 hp e1 h1 => ?_
    refine go_cutIfd (p := k = 0) (fun σ' H' => ∃ p, σ' = [some (.int k), some (.int n), some (.ref p), none, none] ∧ Ex H H' ∧ H p = none ∧ H' p = some (.lst ((na1 k (bitsN n)).map V.int)))
      (by walk_at "et") (fun hk => ?_) (fun hk => ?_) (fun σ' H2 ⟨p2, hσ, e2, hp2, h2⟩ => ?_)
    · have hs : SqL K H1 p ((bitsN n).map V.int) := sq_of h1
      have hl : (bitsN n).length = 4 := rfl
      refine gl_asgL (xs := ([at0 (bitsN n) 2, at0 (bitsN n) 0, at0 (bitsN n) 3, at0 (bitsN n) 1]).map V.int) (el_lst (by walk_at "ea") (by show (4 : Nat) ≤ 100000; decide)) fun p2 H2 hp2 e2 h2 => fun H3 e3 => ⟨p2, rfl, (e1.trans e2).trans e3, fresh_back e1 hp2, ?_⟩
      rw [e3 _ _ h2]
      unfold na1
      rw [if_pos hk]
    · exact fun H2 e2 => ⟨p, rfl, e1.trans e2, hp, by rw [e2 _ _ h1]; unfold na1; rw [if_neg hk]⟩
    · subst hσ
      have l1 := na1_len k n
      generalize er1 : na1 k (bitsN n) = r1 at *
      have hs : SqL K H2 p2 (r1.map V.int) := sq_of h2
      refine go_cutIf (b := decide (k = 1) && decide (r1.sum = 1)) (fun σ' H' => ∃ p, σ' = [some (.int k), some (.int n), some (.ref p), none, none] ∧ Ex H H' ∧ H p = none ∧ H' p = some (.lst ((na2 k r1).map V.int)))
        (by walk_at "et") (fun hk => ?_) (fun hk => ?_) (fun σ' H3 ⟨p3, hσ, e3, hp3, h3⟩ => ?_)
      · simp only [Bool.and_eq_true, decide_eq_true_eq] at hk
        refine gl_rev h2 (ev_var rfl) fun H3 e3 => fun H4 e4 => ⟨p2, rfl, ((e2.trans e3).mut hp2).trans e4, hp2, ?_⟩
        rw [e4 _ _ upd_same]
        unfold na2
        rw [if_pos hk, List.map_reverse]
      · simp only [Bool.and_eq_false_iff, decide_eq_false_iff_not] at hk
        have hk' : ¬ (k = 1 ∧ r1.sum = 1) := fun z => by rcases hk with h | h; exact h z.1; exact h z.2
        refine gl_if (b := decide (k = 1) && (decide (at0 r1 0 = at0 r1 3) && (decide (at0 r1 1 = at0 r1 2) && decide (r1.sum = 2)))) (by walk_at "et") (fun hb => ?_) (fun hb => ?_)
        · simp only [Bool.and_eq_true, decide_eq_true_eq] at hb
          refine gl_asgL (el_mapL (fun x => .int (1 - x)) (ev_var rfl) hs (by omega) (fun _ => rfl) (fun x _ => by walk_at "ev")) fun p3 H3 hp3 e3 h3 => fun H4 e4 => ⟨p3, rfl, (e2.trans e3).trans e4, fresh_back e2 hp3, ?_⟩
          rw [e4 _ _ h3]
          unfold na2
          rw [if_neg hk', if_pos hb, List.map_map]
          rfl
        · have hb' : ¬ (k = 1 ∧ at0 r1 0 = at0 r1 3 ∧ at0 r1 1 = at0 r1 2 ∧ r1.sum = 2) := fun z => by simp [z] at hb
          refine fun H3 e3 => ⟨p2, rfl, e2.trans e3, hp2, ?_⟩
          rw [e3 _ _ h2]
          unfold na2
          rw [if_neg hk', if_neg hb']
      · subst hσ
        have l2 := na2_len k l1
        have e0 : nameN k n = 8 * at0 (na3 k (na2 k r1)) 0 + 4 * at0 (na3 k (na2 k r1)) 1 + 2 * at0 (na3 k (na2 k r1)) 2 + at0 (na3 k (na2 k r1)) 3 := by rw [← er1]; rfl
        generalize na2 k r1 = r2 at *
        have hs3 : SqL K H3 p3 (r2.map V.int) := sq_of h3
        refine go_cutIf (b := decide (k = 2) && decide (r2.sum ≠ 2)) (fun σ' H' => ∃ p y, σ' = [some (.int k), some (.int n), some (.ref p), y, none] ∧ Ex H H' ∧ H' p = some (.lst ((na3 k r2).map V.int)))
          (by walk_at "et") (fun hb => ?_) (fun hb => ?_) (fun σ' H4 ⟨p4, y, hσ, e4, h4⟩ => ?_)
        · simp only [Bool.and_eq_true, decide_eq_true_eq] at hb
          refine go_asg (by walk_at "ev") ?_
          refine go_asgL (el_mapL (fun x => .int (1 - x)) (ev_var rfl) hs3 (by omega) (fun _ => rfl) (fun x _ => by walk_at "ev")) fun p4 H4 hp4 e4 h4 => ?_
          refine gl_whenb (b := decide (r2.sum = 3)) (by walk_at "et") (fun ht => ?_) (fun ht => ?_)
          · refine gl_rev h4 (ev_var rfl) fun H5 e5 => fun H6 e6 => ⟨p4, _, rfl, (((e3.trans e4).trans e5).mut (fresh_back e3 hp4)).trans e6, ?_⟩
            rw [e6 _ _ upd_same]
            unfold na3
            rw [if_pos hb, if_pos (of_decide_eq_true ht), List.map_reverse, List.map_map]
            rfl
          · refine fun H5 e5 => ⟨p4, _, rfl, (e3.trans e4).trans e5, ?_⟩
            rw [e5 _ _ h4]
            unfold na3
            rw [if_pos hb, if_neg (of_decide_eq_false ht), List.map_map]
            rfl
        · have hb' : ¬ (k = 2 ∧ r2.sum ≠ 2) := fun z => by simp [z] at hb
          refine fun H4 e4 => ⟨p3, none, rfl, e3.trans e4, ?_⟩
          rw [e4 _ _ h3]
          unfold na3
          rw [if_neg hb']
        · subst hσ
          have l3 := na3_len k l2
          rw [e0] at q
          generalize na3 k r2 = r3 at *
          have hs4 : SqL K H4 p4 (r3.map V.int) := sq_of h4
          exact go_ret (by walk_at "ev") fun H5 e5 => q H5 (e4.trans e5)
/-! #### law -/
theorem num_block {n c : Int} (h0 : 2 ≤ c) (h1 : c ≤ 3) (hn : 0 ≤ n) (hm : n < c * c * c * c) : numM (blockM n c) c = n := by
  have e : numM (blockM n c) c = (((0 * c + n / c / c / c % c) * c + n / c / c % c) * c + n / c % c) * c + n % c := rfl
  rw [e]
  rcases col_four h0 h1 with ⟨rfl, e2⟩ | ⟨rfl, e2⟩
  · rw [e2] at hm; omega
  · rw [e2] at hm; omega
theorem same_named : ∀ k ∈ [(0 : Int), 1, 2], ranI 16 (rulM k) = ranI 16 (nameN k) := by decide +kernel
theorem nm_at {k : Int} (h0 : 0 ≤ k) (h1 : k ≤ 2) : atI [V.str "turn", V.str "billiard", V.str "critters"] k = some (.str (nmM k)) := by
  rcases (show k = 0 ∨ k = 1 ∨ k = 2 by omega) with rfl | rfl | rfl <;> rfl
theorem ok_law {P : Program} {w : World} {K : PySem.W.Frag} {mg : Str → Option Value} {base : Heap} {f : Addr} {fd : FuncData} (B : Bl mg) (D : DefAt K mg "law" s_law ["script"] f fd) (C__law_cell_at : CalE P w K mg base CX0 1 "_law_cell_at" ["script", "k"] (sp__law_cell_at K)) (C_block_of : CalE P w K mg base CX0 1 "block_of" ["number", "colours"] (sp_block_of K)) (C__law_whole : CalE P w K mg base CX0 1 "_law_whole" ["found"] (sp__law_whole K)) (C_number_of : CalE P w K mg base CX0 1 "number_of" ["block", "colours"] (sp_number_of K)) (C_named : CalE P w K mg base CX0 3 "named" ["name"] (sp_named K)) (C__law_named : CalE P w K mg base CX0 1 "_law_named" ["kind", "number"] (sp__law_named K)) :
    FnOk P w K mg base CX0 4 f fd ["script"] (sp_law K) := by
  obtain ⟨f__law_cell_at, fd__law_cell_at, G__law_cell_at, g__law_cell_at, k__law_cell_at, b__law_cell_at⟩ := C__law_cell_at.ex
  obtain ⟨f_block_of, fd_block_of, G_block_of, g_block_of, k_block_of, b_block_of⟩ := C_block_of.ex
  obtain ⟨f__law_whole, fd__law_whole, G__law_whole, g__law_whole, k__law_whole, b__law_whole⟩ := C__law_whole.ex
  obtain ⟨f_number_of, fd_number_of, G_number_of, g_number_of, k_number_of, b_number_of⟩ := C_number_of.ex
  obtain ⟨f_named, fd_named, G_named, g_named, k_named, b_named⟩ := C_named.ex
  obtain ⟨f__law_named, fd__law_named, G__law_named, g__law_named, k__law_named, b__law_named⟩ := C__law_named.ex
  refine D.F.ok sc_law (fun vs H Q E h => ?_) (fun cdv A outer s H vs Q E hr h => ?_)
  · obtain ⟨a, ns, rfl, _⟩ := h; rfl
  · obtain ⟨a, ns, rfl, hS, hlen, q⟩ := h
    refine ⟨_, (pss_cons (ps_set (i := 1) sc_law.nd rfl (Or.inl rfl) (pe_op op_add pe_int (pe_op op_mod (pe_call G__law_cell_at (hr.mono (by decide)) (by rfl) g__law_cell_at k__law_cell_at b__law_cell_at .nil pass0 (pa_cons (pv 0) (pa_cons pe_int pa_nil))) pe_int)))
 (pss_cons (ps_set (i := 2) sc_law.nd rfl (Or.inl rfl) (pe_op op_mod (pe_call G__law_cell_at (hr.mono (by decide)) (by rfl) g__law_cell_at k__law_cell_at b__law_cell_at .nil pass0 (pa_cons (pv 0) (pa_cons pe_int pa_nil))) (pe_op op_mul (pe_op op_mul (pe_op op_mul (pv 1) (pv 1)) (pv 1)) (pv 1))))
 (pss_cons (ps_set (i := 3) sc_law.nd rfl (Or.inl rfl) (pe_lst pa_nil))
 (pss_cons (ps_set (i := 4) sc_law.nd rfl (Or.inl rfl) (pv 2))
 (pss_cons (ps_for PassesOwn.never rfl (pi_range1 (by rfl) B.range_ (pa_cons pe_int pa_nil)) (pg_name (i := 5) sc_law.nd rfl (Or.inl rfl))
 (pss_cons (ps_expr (pe_bm PySem.F.plainAttrs_list PySem.F.slot_list_insert PySem.F.type_list_insert mt_insertS (pv 3) (pa_cons pe_int (pa_cons (pe_op op_mod (pv 4) (pv 1)) pa_nil))))
 (pss_one (ps_set (i := 4) sc_law.nd rfl (Or.inl rfl) (pe_op op_fdiv (pv 4) (pv 1))))))
 (pss_cons (ps_set (i := 6) sc_law.nd rfl (Or.inl rfl) (pe_call G_block_of (hr.mono (by decide)) (by rfl) g_block_of k_block_of b_block_of .nil pass0 (pa_cons (pv 2) (pa_cons (pv 1) pa_nil))))
 (pss_cons (ps_if (PW.pt (pw_or (pt_not (pt_val (pe_callB call_isi (by rfl) B.isinstance_ (by decide +kernel) (pa_cons (pv 6) (pa_cons (pe_bltn (v := .ty "tuple") (by rfl) B.tuple_ (by decide +kernel) rfl) pa_nil))))) (pw_or (pt_cmpR (op_neD hr.units) (pv 6) (pe_callTy call_tupS (by rfl) B.tuple_ (by decide +kernel) (pa_cons (pv 3) pa_nil)) (nomark _)) (pw_or1 (pt_cmpR op_gt (pe_callB call_lenS (by rfl) B.len_ (by decide +kernel) (pa_cons (pe_lc (own := [("k", 5)]) (g := gName 5) (by rfl) sc_law.nd (pi_tup (pv 6)) (blkOk_by (own := [("k", 5)]) (N := ["script", "colours", "number", "due", "rest", "k", "found", "again", "kind", "turn", "rule"]) (sc := defScope s_law) (by decide +kernel)) (fun _ _ _ _ _ => pg_name (i := 5) sc_law.nd rfl (Or.inl rfl)) (fun _ _ _ _ _ => pts_one (pt_not (pt_val (pe_call G__law_whole (hr.mono (by decide)) (by rfl) g__law_whole k__law_whole b__law_whole .nil pass0 (pa_cons (pv 5) pa_nil))))) (fun _ _ _ _ _ => (pv 5))) pa_nil)) pe_int (nomark _)))))) (pss_one (ps_ret pe_bl)) pss_nil)
 (pss_cons (ps_set (i := 7) sc_law.nd rfl (Or.inl rfl) (pe_call G_number_of (hr.mono (by decide)) (by rfl) g_number_of k_number_of b_number_of .nil pass0 (pa_cons (pe_callTy call_tupS (by rfl) B.tuple_ (by decide +kernel) (pa_cons (pv 3) pa_nil)) (pa_cons (pv 1) pa_nil))))
 (pss_cons (ps_if (PW.pt (pw_or (pt_not (pt_val (pe_call G__law_whole (hr.mono (by decide)) (by rfl) g__law_whole k__law_whole b__law_whole .nil pass0 (pa_cons (pv 7) pa_nil)))) (pw_or1 (pt_cmpR op_ne (pv 7) (pv 2) (nomark _))))) (pss_one (ps_ret pe_bl)) pss_nil)
 (pss_cons (ps_set (i := 8) sc_law.nd rfl (Or.inr rfl) (pe_op op_mod (pe_call G__law_cell_at (hr.mono (by decide)) (by rfl) g__law_cell_at k__law_cell_at b__law_cell_at .nil pass0 (pa_cons (pv 0) (pa_cons pe_int pa_nil))) pe_int))
 (pss_cons (ps_for PassesOwn.never rfl (pi_range1 (by rfl) B.range_ (pa_cons pe_int pa_nil)) (pg_name (i := 9) sc_law.nd rfl (Or.inl rfl))
 (pss_cons (ps_set (i := 10) sc_law.nd rfl (Or.inl rfl) (pe_call G_named (hr.mono (by decide)) (by rfl) g_named k_named b_named .nil pass0 (pa_cons (pe_ix ix_list (pe_lst (pa_cons pe_str (pa_cons pe_str (pa_cons pe_str pa_nil)))) (pv 8) (fun _ _ => rfl)) pa_nil)))
 (pss_cons (ps_if (PW.pt (pw_or (pt_not (pt_val (pe_callB call_isi (by rfl) B.isinstance_ (by decide +kernel) (pa_cons (pv 10) (pa_cons (pe_bltn (v := .ty "list") (by rfl) B.list_ (by decide +kernel) rfl) pa_nil))))) (pw_or1 (pt_cmpR (op_neD hr.units) (pv 10) (pe_lc (own := [("k", 5)]) (g := gName 5) (by rfl) sc_law.nd (pi_range1 (by rfl) B.range_ (pa_cons pe_int pa_nil)) (blkOk_by (own := [("k", 5)]) (N := ["script", "colours", "number", "due", "rest", "k", "found", "again", "kind", "turn", "rule"]) (sc := defScope s_law) (by decide +kernel)) (fun _ _ _ _ _ => pg_name (i := 5) sc_law.nd rfl (Or.inl rfl)) (fun _ _ _ _ _ => pts_nil) (fun _ _ _ _ _ => (pe_call G__law_named (hr.mono (by decide)) (by rfl) g__law_named k__law_named b__law_named .nil pass0 (pa_cons (pv 8) (pa_cons (pv 5) pa_nil))))) (nomark _))))) (pss_one (ps_ret pe_bl)) pss_nil)
 (pss_one (ps_expr (pe_bm0 PySem.F.plainAttrs_list PySem.F.slot_list_clear PySem.F.type_list_clear mt_clear (pv 10)))))))
 (pss_one (ps_ret pe_bl))))))))))))), Go.at ?_⟩
    obtain ⟨c0, c1⟩ := col_of (at0 ns 0)
    refine go_asg (v := .int (2 + at0 ns 0 % 2)) (by walk_at "ev") ?_
    generalize 2 + at0 ns 0 % 2 = c at *
    have hN : 0 < c * c * c * c := by rcases col_four c0 c1 with ⟨_, e⟩ | ⟨_, e⟩ <;> omega
    refine go_asg (v := .int (at0 ns 1 % (c * c * c * c))) (by walk_at "ev") ?_
    have n0 := Int.emod_nonneg (at0 ns 1) (show c * c * c * c ≠ 0 by omega)
    have n1 := Int.emod_lt_of_pos (at0 ns 1) hN
    generalize at0 ns 1 % (c * c * c * c) = n at *
    refine go_asgL (el_lst ea_nil (by decide)) fun p H1 hp e1 h1 => ?_
    refine go_asg (ev_var rfl) ?_
    refine go_forR1 (n := 4) (by walk_at "ea") (by decide) (fun i σ' H' => ∃ y, σ' = [some (.ref a), some (.int c), some (.int n), some (.ref p), some (.int (quo n c i)), y, none, none, none, none, none] ∧ Ex H H' ∧ H' p = some (.lst ((digs n c i).reverse.map V.int)))
      (fun H2 e2 => ⟨_, rfl, e1.trans e2, e2 _ _ h1⟩) (fun i σ' H' hi ⟨y, hσ, e, hl⟩ => ?_) (fun σ' H2 ⟨y, hσ, e2, h2⟩ => ?_)
    · subst hσ
      refine go_ins0 hl (ev_var rfl) ev_c (v := .int (quo n c i % c)) (by walk_at "ev") (by rw [List.length_map, List.length_reverse, digs_len]; omega) fun H2 e2 => ?_
      refine gl_asg (v := .int (quo n c i / c)) (by walk_at "ev") fun H3 e3 => ⟨_, rfl, ((e.trans e2).mut hp).trans e3, ?_⟩
      rw [e3 _ _ upd_same, digs, List.reverse_append]
      rfl
    · subst hσ
      have hS2 := ex_l e2 hS
      have hD : SqL K H2 p ((blockM n c).map V.int) := sq_of h2
      refine go_asgP (ep_call (by walk_at "ea") (spp_block_of (n := n) (c := c) (by omega) c1)) fun v H3 e3 hv => ?_
      have hS3 := ex_l e3 hS2
      have hD3 := ex_l e3 hD
      obtain ⟨b, rfl, hb⟩ := id hv
      refine go_not (et_or (et_not (et_B (ev_isiT (ev_var rfl) hb))) (fun _ => et_or (et_test (ev_neU (ev_var rfl) hv (eu_tupV (ev_var rfl) hD3)))
        (fun _ => et_test (ev_op (ev_lenN (el_lcT (fun _ => false) (fun _ => .non) (ev_var rfl) hb (by show (4 : Nat) ≤ 40000; decide) (fun _ => rfl)
          (fun i x H1 e hx => by obtain ⟨rfl, _⟩ := at0_of hx; exact et_not (et_B (ev_call (ea_cons (ev_var rfl) ea_nil) spv__law_whole))) (fun _ _ _ _ _ hf => by cases hf))) ev_c rv_I0)))) (by rw [given_none]; simp) ?_
      refine go_asg (v := .int n) (ev_is (v := .int (numM (blockM n c) c)) ?_ (by rw [num_block c0 c1 n0 n1])) ?_
      · exact fun H4 e4 Q4 q4 => (ep_callP (P := fun v _ => v = .int (numM (blockM n c) c)) (eap_cons (rw_imm (blockM n c)).mono (ep_U (eu_tupV (ev_var rfl) hD3) fun p H1 _ h1 => ⟨p, rfl, st_of h1⟩) (eap_of (P := fun vs _ => vs = [.int c]) (by walk_at "ea") (fun _ _ => rfl)) (S := fun vs H1 => ∃ v, vs = [v, .int c] ∧ RwV K (blockM n c) v H1) (fun v vs H1 _ hp hvs => ⟨v, by rw [hvs], hp⟩))
          (fun vs H1 _ ⟨v, hvs, hp⟩ => by
            rw [hvs]
            exact fun H2 e2 Q2 q2 E2 => spv_number_of hp (by omega) c1 H2 e2 Q2 (fun H3 e3 => q2 _ H3 e3 rfl) E2)) H4 e4 Q4 (fun v H5 e5 hv => by rw [hv]; exact q4 H5 e5)
      refine go_not (et_or (et_not (et_B (by walk_at "ev"))) (fun _ => by walk_at "et")) (by simp) ?_
      refine go_asg (v := .int (at0 ns 2 % 3)) (by walk_at "ev") ?_
      have k0 := Int.emod_nonneg (at0 ns 2) (show (3 : Int) ≠ 0 by decide)
      have k1 := Int.emod_lt_of_pos (at0 ns 2) (show (0 : Int) < 3 by decide)
      generalize at0 ns 2 % 3 = k at *
      refine go_forR1 (n := 2) (by walk_at "ea") (by decide) (fun i σ' H' => ∃ y z u, σ' = [some (.ref a), some (.int c), some (.int n), some (.ref p), y, z, some (.ref b), some (.int n), some (.int k), u, σ'.getD 10 none])
        (fun H2 e2 => ⟨_, _, _, rfl⟩) (fun i σ' H' hi ⟨y, z, u, hσ⟩ => ?_) (fun σ' H' ⟨y, z, u, hσ⟩ => ?_)
      · generalize σ'.getD 10 none = y2 at hσ
        subst hσ
        refine go_asgL (el_call (ea_cons (ev_ixNL (el_lst (by walk_at "ea") (by show (3 : Nat) ≤ 100000; decide)) (fun _ _ => ev_var rfl) (nm_at k0 (by omega))) ea_nil) (spl_named k0 (by omega))) fun p2 H4 hp2 e4 h4 => ?_
        refine go_not (et_or (et_not (et_B (ev_isiL (ev_var rfl) (sq_of h4)))) (fun _ => et_test (ev_neN (ev_var rfl) (sq_of h4) (el_mapRI (nameN k) (by walk_at "ea") (by decide) (fun _ => rfl) (fun i hi => by walk_at "ev"))))) ?_ ?_
        · have := same_named k (by simp; omega)
          simp [this]
        · exact gl_clear h4 (ev_var rfl) fun H5 e5 => fun H6 e6 => ⟨_, _, _, rfl⟩
      · generalize σ'.getD 10 none = y2 at hσ
        subst hσ
        exact go_ret ev_c fun H1 _ => q H1
end BT
/-! ### what the top has written -/
namespace BT
open PySem PySem.Spec PyProof.Rows L2 Evl
theorem all_mk {l : PySem.W.OpenLaw} {w : World} {K : PySem.W.Frag} {h : Heap} {mg : Str → Option Value} {fa f1 f2 f3 f4 f5 f6 f7 f8 f9 f10 f11 : Addr} (X : K.In h) (G : h.Ns mainGlobals mg) (hfa : mg "law" = some (.ref fa))
    {od1 an1 od2 an2 od3 an3 od4 an4 od5 an5 od6 an6 od7 an7 od8 an8 od9 an9 od10 an10 od11 an11 : Option Addr} {sl1 sl2 sl3 sl4 sl5 sl6 sl7 sl8 sl9 sl10 sl11 : Array (Option Value)} {oc1 kV1 dc1 pm1 cd1 ct1 oc2 kV2 dc2 pm2 cd2 ct2 oc3 kV3 dc3 pm3 cd3 ct3 oc4 kV4 dc4 pm4 cd4 ct4 oc5 kV5 dc5 pm5 cd5 ct5 oc6 kV6 dc6 pm6 cd6 ct6 oc7 kV7 dc7 pm7 cd7 ct7 oc8 kV8 dc8 pm8 cd8 ct8 oc9 kV9 dc9 pm9 cd9 ct9 oc10 kV10 dc10 pm10 cd10 ct10 oc11 kV11 dc11 pm11 cd11 ct11 : Value}
    (a1 : PySem.W.nsIn K mainGlobals "block_of" = some (some (.ref f1))) (l1 : K.lookup f1 = some ⟨oc1, od1, .func (PySem.W.fnOf "block_of" "block_of" (defArgs s_block_of) (defBody s_block_of) (defScope s_block_of) .none kV1 dc1 pm1 an1 cd1 ct1), sl1⟩) (c1 : PySem.W.codeIn K cd1 "block_of" = true) (k1 : PySem.W.keepIn K (.ref f1) = true)
    (a2 : PySem.W.nsIn K mainGlobals "number_of" = some (some (.ref f2))) (l2 : K.lookup f2 = some ⟨oc2, od2, .func (PySem.W.fnOf "number_of" "number_of" (defArgs s_number_of) (defBody s_number_of) (defScope s_number_of) .none kV2 dc2 pm2 an2 cd2 ct2), sl2⟩) (c2 : PySem.W.codeIn K cd2 "number_of" = true) (k2 : PySem.W.keepIn K (.ref f2) = true)
    (a3 : PySem.W.nsIn K mainGlobals "turned_block" = some (some (.ref f3))) (l3 : K.lookup f3 = some ⟨oc3, od3, .func (PySem.W.fnOf "turned_block" "turned_block" (defArgs s_turned_block) (defBody s_turned_block) (defScope s_turned_block) .none kV3 dc3 pm3 an3 cd3 ct3), sl3⟩) (c3 : PySem.W.codeIn K cd3 "turned_block" = true) (k3 : PySem.W.keepIn K (.ref f3) = true)
    (a4 : PySem.W.nsIn K mainGlobals "other_colours" = some (some (.ref f4))) (l4 : K.lookup f4 = some ⟨oc4, od4, .func (PySem.W.fnOf "other_colours" "other_colours" (defArgs s_other_colours) (defBody s_other_colours) (defScope s_other_colours) .none kV4 dc4 pm4 an4 cd4 ct4), sl4⟩) (c4 : PySem.W.codeIn K cd4 "other_colours" = true) (k4 : PySem.W.keepIn K (.ref f4) = true)
    (a5 : PySem.W.nsIn K mainGlobals "billiard" = some (some (.ref f5))) (l5 : K.lookup f5 = some ⟨oc5, od5, .func (PySem.W.fnOf "billiard" "billiard" (defArgs s_billiard) (defBody s_billiard) (defScope s_billiard) .none kV5 dc5 pm5 an5 cd5 ct5), sl5⟩) (c5 : PySem.W.codeIn K cd5 "billiard" = true) (k5 : PySem.W.keepIn K (.ref f5) = true)
    (a6 : PySem.W.nsIn K mainGlobals "critters" = some (some (.ref f6))) (l6 : K.lookup f6 = some ⟨oc6, od6, .func (PySem.W.fnOf "critters" "critters" (defArgs s_critters) (defBody s_critters) (defScope s_critters) .none kV6 dc6 pm6 an6 cd6 ct6), sl6⟩) (c6 : PySem.W.codeIn K cd6 "critters" = true) (k6 : PySem.W.keepIn K (.ref f6) = true)
    (a7 : PySem.W.nsIn K mainGlobals "named" = some (some (.ref f7))) (l7 : K.lookup f7 = some ⟨oc7, od7, .func (PySem.W.fnOf "named" "named" (defArgs s_named) (defBody s_named) (defScope s_named) .none kV7 dc7 pm7 an7 cd7 ct7), sl7⟩) (c7 : PySem.W.codeIn K cd7 "named" = true) (k7 : PySem.W.keepIn K (.ref f7) = true)
    (a8 : PySem.W.nsIn K mainGlobals "_law_cell_at" = some (some (.ref f8))) (l8 : K.lookup f8 = some ⟨oc8, od8, .func (PySem.W.fnOf "_law_cell_at" "_law_cell_at" (defArgs s__law_cell_at) (defBody s__law_cell_at) (defScope s__law_cell_at) .none kV8 dc8 pm8 an8 cd8 ct8), sl8⟩) (c8 : PySem.W.codeIn K cd8 "_law_cell_at" = true) (k8 : PySem.W.keepIn K (.ref f8) = true)
    (a9 : PySem.W.nsIn K mainGlobals "_law_whole" = some (some (.ref f9))) (l9 : K.lookup f9 = some ⟨oc9, od9, .func (PySem.W.fnOf "_law_whole" "_law_whole" (defArgs s__law_whole) (defBody s__law_whole) (defScope s__law_whole) .none kV9 dc9 pm9 an9 cd9 ct9), sl9⟩) (c9 : PySem.W.codeIn K cd9 "_law_whole" = true) (k9 : PySem.W.keepIn K (.ref f9) = true)
    (a10 : PySem.W.nsIn K mainGlobals "_law_named" = some (some (.ref f10))) (l10 : K.lookup f10 = some ⟨oc10, od10, .func (PySem.W.fnOf "_law_named" "_law_named" (defArgs s__law_named) (defBody s__law_named) (defScope s__law_named) .none kV10 dc10 pm10 an10 cd10 ct10), sl10⟩) (c10 : PySem.W.codeIn K cd10 "_law_named" = true) (k10 : PySem.W.keepIn K (.ref f10) = true)
    (a11 : PySem.W.nsIn K mainGlobals "law" = some (some (.ref f11))) (l11 : K.lookup f11 = some ⟨oc11, od11, .func (PySem.W.fnOf "law" "law" (defArgs s_law) (defBody s_law) (defScope s_law) .none kV11 dc11 pm11 an11 cd11 ct11), sl11⟩) (c11 : PySem.W.codeIn K cd11 "law" = true) (k11 : PySem.W.keepIn K (.ref f11) = true)
    (z_bool : PySem.W.nsIn K mainGlobals "bool" = some none)
    (z_int : PySem.W.nsIn K mainGlobals "int" = some none)
    (z_isinstance : PySem.W.nsIn K mainGlobals "isinstance" = some none)
    (z_len : PySem.W.nsIn K mainGlobals "len" = some none)
    (z_list : PySem.W.nsIn K mainGlobals "list" = some none)
    (z_range : PySem.W.nsIn K mainGlobals "range" = some none)
    (z_reversed : PySem.W.nsIn K mainGlobals "reversed" = some none)
    (z_sum : PySem.W.nsIn K mainGlobals "sum" = some none)
    (z_tuple : PySem.W.nsIn K mainGlobals "tuple" = some none)
    : ∃ fd : FuncData, (∀ (s : Shared) (v : Value), BindsTo s fd ⟨[v], []⟩ [("script", v)]) ∧ ∀ base : Heap, K.In base → base.Ns mainGlobals mg → FnOk l.prog w K mg base CX0 4 fa fd ["script"] (sp_law K) := by
  have e := hfa.symm.trans (PySem.W.mg_of X G a11)
  cases e
  have B : Bl mg := ⟨PySem.W.mg_none_of X G z_bool, PySem.W.mg_none_of X G z_int, PySem.W.mg_none_of X G z_isinstance, PySem.W.mg_none_of X G z_len, PySem.W.mg_none_of X G z_list, PySem.W.mg_none_of X G z_range, PySem.W.mg_none_of X G z_reversed, PySem.W.mg_none_of X G z_sum, PySem.W.mg_none_of X G z_tuple⟩
  have F1 := fun_mk (st := s_block_of) l1 c1 k1
  have D1 : DefAt K mg "block_of" s_block_of ["number", "colours"] _ _ := ⟨PySem.W.mg_of X G a1, F1, F1.binds (ps := ["number", "colours"]) fun _ _ _ _ _ _ us hl => match us, hl with | [_, _], _ => rfl⟩
  have F2 := fun_mk (st := s_number_of) l2 c2 k2
  have D2 : DefAt K mg "number_of" s_number_of ["block", "colours"] _ _ := ⟨PySem.W.mg_of X G a2, F2, F2.binds (ps := ["block", "colours"]) fun _ _ _ _ _ _ us hl => match us, hl with | [_, _], _ => rfl⟩
  have F3 := fun_mk (st := s_turned_block) l3 c3 k3
  have D3 : DefAt K mg "turned_block" s_turned_block ["block", "turning"] _ _ := ⟨PySem.W.mg_of X G a3, F3, F3.binds (ps := ["block", "turning"]) fun _ _ _ _ _ _ us hl => match us, hl with | [_, _], _ => rfl⟩
  have F4 := fun_mk (st := s_other_colours) l4 c4 k4
  have D4 : DefAt K mg "other_colours" s_other_colours ["block"] _ _ := ⟨PySem.W.mg_of X G a4, F4, F4.binds (ps := ["block"]) fun _ _ _ _ _ _ us hl => match us, hl with | [_], _ => rfl⟩
  have F5 := fun_mk (st := s_billiard) l5 c5 k5
  have D5 : DefAt K mg "billiard" s_billiard ["block"] _ _ := ⟨PySem.W.mg_of X G a5, F5, F5.binds (ps := ["block"]) fun _ _ _ _ _ _ us hl => match us, hl with | [_], _ => rfl⟩
  have F6 := fun_mk (st := s_critters) l6 c6 k6
  have D6 : DefAt K mg "critters" s_critters ["block"] _ _ := ⟨PySem.W.mg_of X G a6, F6, F6.binds (ps := ["block"]) fun _ _ _ _ _ _ us hl => match us, hl with | [_], _ => rfl⟩
  have F7 := fun_mk (st := s_named) l7 c7 k7
  have D7 : DefAt K mg "named" s_named ["name"] _ _ := ⟨PySem.W.mg_of X G a7, F7, F7.binds (ps := ["name"]) fun _ _ _ _ _ _ us hl => match us, hl with | [_], _ => rfl⟩
  have F8 := fun_mk (st := s__law_cell_at) l8 c8 k8
  have D8 : DefAt K mg "_law_cell_at" s__law_cell_at ["script", "k"] _ _ := ⟨PySem.W.mg_of X G a8, F8, F8.binds (ps := ["script", "k"]) fun _ _ _ _ _ _ us hl => match us, hl with | [_, _], _ => rfl⟩
  have F9 := fun_mk (st := s__law_whole) l9 c9 k9
  have D9 : DefAt K mg "_law_whole" s__law_whole ["found"] _ _ := ⟨PySem.W.mg_of X G a9, F9, F9.binds (ps := ["found"]) fun _ _ _ _ _ _ us hl => match us, hl with | [_], _ => rfl⟩
  have F10 := fun_mk (st := s__law_named) l10 c10 k10
  have D10 : DefAt K mg "_law_named" s__law_named ["kind", "number"] _ _ := ⟨PySem.W.mg_of X G a10, F10, F10.binds (ps := ["kind", "number"]) fun _ _ _ _ _ _ us hl => match us, hl with | [_, _], _ => rfl⟩
  have F11 := fun_mk (st := s_law) l11 c11 k11
  have D11 : DefAt K mg "law" s_law ["script"] _ _ := ⟨PySem.W.mg_of X G a11, F11, F11.binds (ps := ["script"]) fun _ _ _ _ _ _ us hl => match us, hl with | [_], _ => rfl⟩
  refine ⟨PySem.W.fnOf "law" "law" (defArgs s_law) (defBody s_law) (defScope s_law) .none kV11 dc11 pm11 an11 cd11 ct11, fun s v => .of_eq rfl, fun base _ _ => ?_⟩
  have C__law_cell_at := cal__law_cell_at (P := l.prog) (w := w) (base := base) B D8 
  have C_block_of := cal_block_of (P := l.prog) (w := w) (base := base) B D1 
  have C__law_whole := cal__law_whole (P := l.prog) (w := w) (base := base) B D9 
  have C_number_of := cal_number_of (P := l.prog) (w := w) (base := base) B D2 
  have C_turned_block := cal_turned_block (P := l.prog) (w := w) (base := base) B D3 
  have C_other_colours := cal_other_colours (P := l.prog) (w := w) (base := base) B D4 
  have C_billiard := cal_billiard (P := l.prog) (w := w) (base := base) B D5 C_turned_block C_other_colours
  have C_critters := cal_critters (P := l.prog) (w := w) (base := base) B D6 C_other_colours C_turned_block
  have C_named := cal_named (P := l.prog) (w := w) (base := base) B D7 C_block_of C_turned_block C_billiard C_critters C_number_of
  have C__law_named := cal__law_named (P := l.prog) (w := w) (base := base) B D10 
  exact ok_law (P := l.prog) (w := w) (base := base) B D11 C__law_cell_at C_block_of C__law_whole C_number_of C_named C__law_named
end BT
open PySem PySem.W PyProof.Rows
set_option maxHeartbeats 0 in
theorem PySem.Challenge.cw_blockturn_k02_blocks_and_named_rules_holds : PySem.Challenge.rw_blockturn_k02_blocks_and_named_rules.Holds := by
  w_on; o_law; k_head; (case hw => w_witness2)
  k_fill
  refine L2.walk_of (l := PySem.Challenge.rw_blockturn_k02_blocks_and_named_rules) (n := 63) (k := 4) (x := "script") (CX := fun _ => L2.CX0) (sp := fun w => BT.sp_law _) rfl (by decide) rfl ⟨rfl, by decide, by decide⟩ (fun w h Y => PySem.W.kIn_of Y) ?F (fun _ _ a ns hl _ hS => BT.sp_law_of hS hl) (fun _ _ _ _ _ h => h)
  case F =>
    intro w mg fa h KX G hmg
    refine' BT.all_mk KX G hmg ?a1 ?l1 ?c1 ?k1 ?a2 ?l2 ?c2 ?k2 ?a3 ?l3 ?c3 ?k3 ?a4 ?l4 ?c4 ?k4 ?a5 ?l5 ?c5 ?k5 ?a6 ?l6 ?c6 ?k6 ?a7 ?l7 ?c7 ?k7 ?a8 ?l8 ?c8 ?k8 ?a9 ?l9 ?c9 ?k9 ?a10 ?l10 ?c10 ?k10 ?a11 ?l11 ?c11 ?k11 ?z_bool ?z_int ?z_isinstance ?z_len ?z_list ?z_range ?z_reversed ?z_sum ?z_tuple
    (case a1 => k_is); (case l1 => k_is); (case c1 => k_is); (case k1 => k_is); (case a2 => k_is); (case l2 => k_is); (case c2 => k_is); (case k2 => k_is); (case a3 => k_is); (case l3 => k_is); (case c3 => k_is); (case k3 => k_is); (case a4 => k_is); (case l4 => k_is); (case c4 => k_is); (case k4 => k_is); (case a5 => k_is); (case l5 => k_is); (case c5 => k_is); (case k5 => k_is); (case a6 => k_is); (case l6 => k_is); (case c6 => k_is); (case k6 => k_is); (case a7 => k_is); (case l7 => k_is); (case c7 => k_is); (case k7 => k_is); (case a8 => k_is); (case l8 => k_is); (case c8 => k_is); (case k8 => k_is); (case a9 => k_is); (case l9 => k_is); (case c9 => k_is); (case k9 => k_is); (case a10 => k_is); (case l10 => k_is); (case c10 => k_is); (case k10 => k_is); (case a11 => k_is); (case l11 => k_is); (case c11 => k_is); (case k11 => k_is); (case z_bool => k_is); (case z_int => k_is); (case z_isinstance => k_is); (case z_len => k_is); (case z_list => k_is); (case z_range => k_is); (case z_reversed => k_is); (case z_sum => k_is); (case z_tuple => k_is)
