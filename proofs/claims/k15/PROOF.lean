import PyProof.Rows.All
import Wide.All
import OpenK.AllK
import Wide.FinOn
import HandS.ForMost
import HandS.ForExc
import HandS.ExcIs
import HandS.Evl
import HandS.IsInst
import HandS.Rev
import HandS.More
import HandS.Steps
import KE.KTupSum
import KE.KDictKeyed
import HandS.ForDict
import HandS.Strs
import HandS.SetFor
import HandS.TupAny
import PySem.Challenge.RW_blockturn_k15_whole_all_rings
set_option Elab.async false
set_option linter.all false
set_option maxRecDepth 100000
set_option maxHeartbeats 4000000
namespace BT
open PySem PySem.Spec PyProof.Rows L2 Evl
/-! ### defs by name, defs that are called -/
structure DefAt (K : PySem.W.Frag) (mg : Str → Option Value) (x : String) (st : Stmt) (ps : List Str) (f : Addr) (fd : FuncData) : Prop where
  g : mg x = some (.ref f)
  F : Fun K x x st f fd
  b : Binds K fd ps []
structure CalE (P : Program) (w : World) (K : PySem.W.Frag) (mg : Str → Option Value) (base : Heap) (CX : CXT) (k : Nat) (x : Str) (ps : List Str) (sp : Sp) : Prop where
  ex : ∃ (f : Addr) (fd : FuncData), FnOk P w K mg base CX k f fd ps sp ∧ mg x = some (.ref f) ∧ PySem.W.keepIn K (.ref f) = true ∧ Binds K fd ps []

/-! ### what a reading evaluates to, some value of which P holds -/
def Mono (P : V → Hp → Prop) : Prop := ∀ v H H', Ex H H' → P v H → P v H'
def EvP (te : TE) (σ : L2.St) (H : Hp) (P : V → Hp → Prop) : Prop := ∀ H1, Ex H H1 → ∀ Q : VK, (∀ v H2, Ex H1 H2 → P v H2 → Q v H2) → te σ H1 Q
def EvLP (te : TE) (σ : L2.St) (H : Hp) (n : Nat) (P : Nat → V → Hp → Prop) : Prop :=
  ∀ H1, Ex H H1 → ∀ Q : VK, (∀ p H2 vs, H1 p = none → Ex H1 H2 → H2 p = some (.lst vs) → vs.length = n → (∀ i v, vs[i]? = some v → P i v H2) → Q (.ref p) H2) → te σ H1 Q
def RetP (P : V → Hp → Prop) (H : Hp) (Q : VK) : Prop := ∀ v H2, Ex H H2 → P v H2 → Q v H2
def SpP (sp : Sp) (vs : List V) (H : Hp) (P : V → Hp → Prop) : Prop := ∀ H1, Ex H H1 → ∀ Q : VK, RetP P H1 Q → ∀ E : XK, sp vs H1 Q E
section
variable {K : PySem.W.Frag} {σ : L2.St} {H H' : Hp} {ta tb te tx : TE} {t u : TT} {x y z v : V} {r : R2} {P : V → Hp → Prop}
theorem EvU.mono {xs : List V} (e : Ex H H') (h : EvU te σ H xs) : EvU te σ H' xs := fun H1 e1 => h H1 (e.trans e1)
theorem EvP.mono (e : Ex H H') (h : EvP te σ H P) : EvP te σ H' P := fun H1 e1 => h H1 (e.trans e1)
theorem ep_of (h : Ev te σ H v) (hp : ∀ H1, Ex H H1 → P v H1) : EvP te σ H P := fun H1 e Q q => h H1 e Q fun H2 e2 => q v H2 e2 (hp H2 (e.trans e2))
theorem ep_weak {P' : V → Hp → Prop} (h : EvP te σ H P) (hp : ∀ v H1, Ex H H1 → P v H1 → P' v H1) : EvP te σ H P' := fun H1 e Q q => h H1 e Q fun v H2 e2 p => q v H2 e2 (hp v H2 (e.trans e2) p)
theorem ep_call {sp : Sp} {dvs vs : List V} {E : XK} {ta : TA} (h : EvA ta σ H vs) (hs : SpP sp (vs ++ dvs) H P) : EvP (tCall sp dvs E ta) σ H P :=
  fun H1 e Q q => h H1 e _ fun H2 e2 => hs H2 (e.trans e2) Q (fun v H3 e3 p => q v H3 (e2.trans e3) p) E
/-- an argument some of whose facts are known -/
def EvAP (ta : TA) (σ : L2.St) (H : Hp) (P : List V → Hp → Prop) : Prop := ∀ H1, Ex H H1 → ∀ Q : List V → Hp → Prop, (∀ vs H2, Ex H1 H2 → P vs H2 → Q vs H2) → ta σ H1 Q
theorem eap_of {ta : TA} {vs : List V} {P : List V → Hp → Prop} (h : EvA ta σ H vs) (hp : ∀ H1, Ex H H1 → P vs H1) : EvAP ta σ H P := fun H1 e Q q => h H1 e Q fun H2 e2 => q vs H2 e2 (hp H2 (e.trans e2))
theorem eap_cons {ta : TA} {P : V → Hp → Prop} {R S : List V → Hp → Prop} (hm : Mono P) (h : EvP te σ H P) (hr : EvAP ta σ H R) (hs : ∀ v vs H1, Ex H H1 → P v H1 → R vs H1 → S (v :: vs) H1) : EvAP (tCons te ta) σ H S :=
  fun H1 e Q q => h H1 e _ fun v H2 e2 p => hr H2 (e.trans e2) _ fun vs H3 e3 p3 => q (v :: vs) H3 (e2.trans e3) (hs v vs H3 ((e.trans e2).trans e3) (hm v H2 H3 e3 p) p3)
theorem ep_callP {sp : Sp} {dvs : List V} {E : XK} {ta : TA} {R : List V → Hp → Prop} (h : EvAP ta σ H R) (hs : ∀ vs H1, Ex H H1 → R vs H1 → SpP sp (vs ++ dvs) H1 P) : EvP (tCall sp dvs E ta) σ H P :=
  fun H1 e Q q => h H1 e _ fun vs H2 e2 p => hs vs H2 (e.trans e2) p H2 (Ex.refl H2) Q (fun v H3 e3 p => q v H3 (e2.trans e3) p) E
theorem ev_opP {P2 : V → Hp → Prop} (m : Mono P) (ha : EvP ta σ H P) (hb : EvP tb σ H P2) (hr : ∀ v u H1, Ex H H1 → P v H1 → P2 u H1 → RV r v u H1 z) : Ev (tOp r ta tb) σ H z :=
  fun H1 e Q q => ha H1 e _ fun v H2 e2 p => hb H2 (e.trans e2) _ fun u H3 e3 p2 => hr v u H3 ((e.trans e2).trans e3) (m v H2 H3 e3 p) p2 H3 (Ex.refl H3) Q fun H4 e4 => q H4 ((e2.trans e3).trans e4)
theorem ep_opP {P2 P3 : V → Hp → Prop} (m : Mono P) (ha : EvP ta σ H P) (hb : EvP tb σ H P2) (hr : ∀ v u H1, Ex H H1 → P v H1 → P2 u H1 → ∀ Q : VK, (∀ z H2, Ex H1 H2 → P3 z H2 → Q z H2) → r v u H1 Q) : EvP (tOp r ta tb) σ H P3 :=
  fun H1 e Q q => ha H1 e _ fun v H2 e2 p => hb H2 (e.trans e2) _ fun u H3 e3 p2 => hr v u H3 ((e.trans e2).trans e3) (m v H2 H3 e3 p) p2 Q fun z H4 e4 => q z H4 ((e2.trans e3).trans e4)
theorem ep_if {b : Bool} (h : EvT t σ H b) (h1 : b = true → EvP ta σ H P) (h2 : b = false → EvP tb σ H P) : EvP (tIf t ta tb) σ H P := by
  intro H1 e Q q
  refine h H1 e _ fun H2 e2 => ?_
  cases b with
  | true => exact h1 rfl H2 (e.trans e2) Q fun v H3 e3 p => q v H3 (e2.trans e3) p
  | false => exact h2 rfl H2 (e.trans e2) Q fun v H3 e3 p => q v H3 (e2.trans e3) p
/-- a new tuple, a new list, as some value -/
theorem ep_U {xs : List V} (h : EvU te σ H xs) (hp : ∀ p H1, Ex H H1 → H1 p = some (.tup xs) → P (.ref p) H1) : EvP te σ H P := fun H1 e Q q => h H1 e Q fun p H2 _ e2 hp2 => q _ H2 e2 (hp p H2 (e.trans e2) hp2)
theorem ep_L {xs : List V} (h : EvL te σ H xs) (hp : ∀ p H1, Ex H H1 → H1 p = some (.lst xs) → P (.ref p) H1) : EvP te σ H P := fun H1 e Q q => h H1 e Q fun p H2 _ e2 hp2 => q _ H2 e2 (hp p H2 (e.trans e2) hp2)

/-! ### operators -/
theorem rv_mod {i j : Int} (h : 0 < j) : RV (rI (fun _ j => 0 < j) fun i j => .int (i % j)) (.int i) (.int j) H (.int (i % j)) := rv_I h
theorem rv_fdiv {i j : Int} (h : 0 < j) (h2 : j < 1073741824) : RV (rI CDiv fun i j => .int (i / j)) (.int i) (.int j) H (.int (i / j)) := rv_I ⟨h, h2⟩
theorem rv_mulR {i j : Int} (h : -18446744073709551616 < j) (h2 : j < 18446744073709551616) : RV (rI CMul fun i j => .int (i * j)) (.int i) (.int j) H (.int (i * j)) := rv_I (.inr ⟨h, h2⟩)
theorem rv_mulL {i j : Int} (h : -18446744073709551616 < i) (h2 : i < 18446744073709551616) : RV (rI CMul fun i j => .int (i * j)) (.int i) (.int j) H (.int (i * j)) := rv_I (.inl ⟨h, h2⟩)
theorem rv_pow {i j : Int} (h : CPow i j) : RV (rI CPow fun i j => .int (i ^ j.toNat)) (.int i) (.int j) H (.int (i ^ j.toNat)) := rv_I h
theorem dec_i (a b : Int) : decide (V.int a = V.int b) = decide (a = b) := by
  by_cases h : a = b
  · rw [decide_eq_true h, decide_eq_true (congrArg V.int h)]
  · rw [decide_eq_false h, decide_eq_false (fun z => h (V.int.inj z))]
theorem dec_s (a b : Str) : decide (V.str a = V.str b) = decide (a = b) := by
  by_cases h : a = b
  · rw [decide_eq_true h, decide_eq_true (congrArg V.str h)]
  · rw [decide_eq_false h, decide_eq_false (fun z => h (V.str.inj z))]
theorem dec_b (a b : Bool) : decide (V.bl a = V.bl b) = decide (a = b) := by
  by_cases h : a = b
  · rw [decide_eq_true h, decide_eq_true (congrArg V.bl h)]
  · rw [decide_eq_false h, decide_eq_false (fun z => h (V.bl.inj z))]
theorem rv_eqI {a b : Int} : RV rEq (.int a) (.int b) H (.bl (decide (a = b))) := by
  have := rv_eq (H := H) (x := V.int a) (y := V.int b) rfl
  rwa [dec_i] at this
theorem rv_neI {a b : Int} : RV rNe (.int a) (.int b) H (.bl (decide (a ≠ b))) := by
  have := rv_ne (H := H) (x := V.int a) (y := V.int b) rfl
  rw [dec_i, ← decide_not] at this
  exact this
theorem rv_eqS {a b : Str} : RV rEq (.str a) (.str b) H (.bl (decide (a = b))) := by
  have := rv_eq (H := H) (x := V.str a) (y := V.str b) rfl
  rwa [dec_s] at this
theorem rv_neS {a b : Str} : RV rNe (.str a) (.str b) H (.bl (decide (a ≠ b))) := by
  have := rv_ne (H := H) (x := V.str a) (y := V.str b) rfl
  rw [dec_s, ← decide_not] at this
  exact this
theorem rv_eqBl {a b : Bool} : RV rEq (.bl a) (.bl b) H (.bl (decide (a = b))) := by
  have := rv_eq (H := H) (x := V.bl a) (y := V.bl b) rfl
  rwa [dec_b] at this
/-- a test whose value is known to be a proposition's -/
theorem et_yes : EvT tYes σ H true := fun H1 _ Q q => q H1 (Ex.refl H1)

/-! ### items -/
def at0 (ns : List Int) (i : Int) : Int := ns.getD i.toNat 0
theorem atI_at0 {ns : List Int} {i : Int} (h0 : 0 ≤ i) (h1 : i < (ns.length : Int)) : atI (ns.map V.int) i = some (.int (at0 ns i)) := by
  obtain ⟨j, rfl⟩ := Int.eq_ofNat_of_zero_le h0
  have hj : j < ns.length := by omega
  refine atI_nat ?_
  rw [List.getElem?_map, List.getElem?_eq_getElem hj]
  unfold at0
  rw [List.getD_eq_getElem?_getD, Int.toNat_natCast, List.getElem?_eq_getElem hj]
  rfl
theorem ev_ixL {p : Addr} {xs : List V} {i : Int} (ha : Ev ta σ H (.ref p)) (hb : Ev tb σ H (.int i)) (h : SqL K H p xs) (hx : atI xs i = some v) : Ev (tOp (rIxL K) ta tb) σ H v := ev_op ha hb (rv_ixL h hx)
theorem ev_ixT {p : Addr} {xs : List V} {i : Int} (ha : Ev ta σ H (.ref p)) (hb : Ev tb σ H (.int i)) (h : SqT K H p xs) (hx : atI xs i = some v) : Ev (tOp (rIxT K) ta tb) σ H v := ev_op ha hb (rv_ixT h hx)
theorem ev_ixLI {p : Addr} {ns : List Int} {i : Int} (ha : Ev ta σ H (.ref p)) (hb : Ev tb σ H (.int i)) (h : SqL K H p (ns.map V.int)) (h0 : 0 ≤ i) (h1 : i < (ns.length : Int)) : Ev (tOp (rIxL K) ta tb) σ H (.int (at0 ns i)) :=
  ev_ixL ha hb h (atI_at0 h0 h1)
theorem ev_ixTI {p : Addr} {ns : List Int} {i : Int} (ha : Ev ta σ H (.ref p)) (hb : Ev tb σ H (.int i)) (h : SqT K H p (ns.map V.int)) (h0 : 0 ≤ i) (h1 : i < (ns.length : Int)) : Ev (tOp (rIxT K) ta tb) σ H (.int (at0 ns i)) :=
  ev_ixT ha hb h (atI_at0 h0 h1)
theorem ev_lenL {p : Addr} {xs : List V} (ha : Ev ta σ H (.ref p)) (h : SqL K H p xs) : Ev (tCB (rLenS K) (tCons ta tNil)) σ H (.int (xs.length : Int)) := ev_len ha h
theorem ev_lenT {p : Addr} {xs : List V} (ha : Ev ta σ H (.ref p)) (h : SqT K H p xs) : Ev (tCB (rLenS K) (tCons ta tNil)) σ H (.int (xs.length : Int)) :=
  fun H1 e Q q => ha H1 e _ fun H2 e2 => ⟨p, xs, rfl, .inr (ex_t (e.trans e2) h), q H2 e2⟩
theorem ev_lenLI {p : Addr} {ns : List Int} (ha : Ev ta σ H (.ref p)) (h : SqL K H p (ns.map V.int)) : Ev (tCB (rLenS K) (tCons ta tNil)) σ H (.int (ns.length : Int)) := by
  have := ev_lenL ha h
  rwa [List.length_map] at this
theorem ev_lenTI {p : Addr} {ns : List Int} (ha : Ev ta σ H (.ref p)) (h : SqT K H p (ns.map V.int)) : Ev (tCB (rLenS K) (tCons ta tNil)) σ H (.int (ns.length : Int)) := by
  have := ev_lenT ha h
  rwa [List.length_map] at this
theorem ev_lenLP {n : Nat} {P : Nat → V → Hp → Prop} (ha : EvLP ta σ H n P) : Ev (tCB (rLenS K) (tCons ta tNil)) σ H (.int (n : Int)) :=
  fun H1 e Q q => ha H1 e _ fun p H2 vs _ e2 h2 hl _ => ⟨p, vs, rfl, .inl (sq_of h2), by rw [hl]; exact q H2 e2⟩
theorem ev_sumL {p : Addr} {ns : List Int} (ha : Ev ta σ H (.ref p)) (h : SqL K H p (ns.map V.int)) : Ev (tCB (rSum K) (tCons ta tNil)) σ H (.int ns.sum) :=
  fun H1 e Q q => ha H1 e _ fun H2 e2 => ⟨p, ns, rfl, ex_l (e.trans e2) h, q H2 e2⟩
theorem ev_sumN {ns : List Int} (ha : EvL ta σ H (ns.map V.int)) : Ev (tCB (rSum K) (tCons ta tNil)) σ H (.int ns.sum) :=
  fun H1 e Q q => ha H1 e _ fun p H2 _ e2 h2 => ⟨p, ns, rfl, sq_of h2, q H2 e2⟩
def rMin2 : List V → Hp → VK → Prop := fun xs H Q => ∃ i j, xs = [.int i, .int j] ∧ Q (.int (if j < i then j else i)) H
theorem ev_min2 {i j : Int} (ha : Ev ta σ H (.int i)) (hb : Ev tb σ H (.int j)) : Ev (tCB rMin2 (tCons ta (tCons tb tNil))) σ H (.int (if j < i then j else i)) :=
  fun H1 e Q q => ha H1 e _ fun H2 e2 => hb H2 (e.trans e2) _ fun H3 e3 => ⟨i, j, rfl, q H3 (e2.trans e3)⟩
def rInt1 : List V → Hp → VK → Prop := fun xs H Q => (∃ i, xs = [.int i] ∧ Q (.int i) H) ∨ ∃ k, xs = [.bl k] ∧ Q (.int (if k then 1 else 0)) H
theorem ev_intB {k : Bool} (ha : Ev ta σ H (.bl k)) : Ev (tCB rInt1 (tCons ta tNil)) σ H (.int (if k then 1 else 0)) :=
  fun H1 e Q q => ha H1 e _ fun H2 e2 => .inr ⟨k, rfl, q H2 e2⟩
def rTupS (K : PySem.W.Frag) : List V → Hp → VK → Prop := fun xs H Q => ∃ p ys, xs = [.ref p] ∧ ((SqL K H p ys ∧ ∀ l, H l = none → Q (.ref l) (upd H l (.tup ys))) ∨ (SqT K H p ys ∧ Q (.ref p) H))
theorem eu_tupL {xs : List V} (ha : EvL ta σ H xs) : EvU (tCB (rTupS K) (tCons ta tNil)) σ H xs :=
  fun H1 e Q q => ha H1 e _ fun p H2 hp e2 h2 => ⟨p, xs, rfl, .inl ⟨sq_of h2, fun l hl => q l _ (fresh_back e2 hl) (e2.trans (Ex.new hl)) upd_same⟩⟩
theorem eu_tupV {p : Addr} {xs : List V} (ha : Ev ta σ H (.ref p)) (h : SqL K H p xs) : EvU (tCB (rTupS K) (tCons ta tNil)) σ H xs :=
  fun H1 e Q q => ha H1 e _ fun H2 e2 => ⟨p, xs, rfl, .inl ⟨ex_l (e.trans e2) h, fun l hl => q l _ (fresh_back e2 hl) (e2.trans (Ex.new hl)) upd_same⟩⟩
theorem eu_tupT {p : Addr} {xs : List V} (ha : Ev ta σ H (.ref p)) (h : SqT K H p xs) : Ev (tCB (rTupS K) (tCons ta tNil)) σ H (.ref p) :=
  fun H1 e Q q => ha H1 e _ fun H2 e2 => ⟨p, xs, rfl, .inr ⟨ex_t (e.trans e2) h, q H2 e2⟩⟩
theorem eu_rev {p : Addr} {xs : List V} (ha : Ev ta σ H (.ref p)) (h : SqL K H p xs) : EvU (RT.tTupRev K ta) σ H xs.reverse :=
  fun H1 e Q q => ha H1 e _ fun H2 e2 => ⟨p, xs, rfl, ex_l (e.trans e2) h, fun l hl => q l _ (fresh_back e2 hl) (e2.trans (Ex.new hl)) upd_same⟩
theorem el_listT {p : Addr} {xs : List V} (ha : Ev ta σ H (.ref p)) (h : SqT K H p xs) : EvL (tCB (rListS K) (tCons ta tNil)) σ H xs :=
  fun H1 e Q q => ha H1 e _ fun H2 e2 => ⟨p, xs, rfl, .inr (ex_t (e.trans e2) h), fun l hl => q l _ (fresh_back e2 hl) (e2.trans (Ex.new hl)) upd_same⟩
/-- a tuple made of a list of things -/
def TupP (K : PySem.W.Frag) (n : Nat) (P : Nat → V → Hp → Prop) (v : V) (H : Hp) : Prop := ∃ p vs, v = .ref p ∧ SqT K H p vs ∧ vs.length = n ∧ ∀ (i : Nat) (u : V), vs[i]? = some u → P i u H
theorem ep_tupLP {n : Nat} {P : Nat → V → Hp → Prop} (m : ∀ i, Mono (P i)) (ha : EvLP ta σ H n P) : EvP (tCB (rTupS K) (tCons ta tNil)) σ H (TupP K n P) :=
  fun H1 e Q q => ha H1 e _ fun p H2 vs _ e2 h2 hl hP => ⟨p, vs, rfl, .inl ⟨sq_of h2, fun l hl2 => q _ _ (e2.trans (Ex.new hl2)) ⟨l, vs, rfl, st_of upd_same, hl, fun i u hu => m i u _ _ (Ex.new hl2) (hP i u hu)⟩⟩⟩

/-! ### comprehensions -/
theorem given_all (n : Nat) (v : Nat → V) : given n (fun _ => true) v = (List.range n).map v := by
  unfold given
  rw [List.filter_eq_self.mpr (fun _ _ => rfl)]
theorem el_mapR {ta : TA} {j : Nat} {vs : List Nat} {n : Int} (v : Nat → V) (h : EvA ta σ H [.int n]) (hn : 0 ≤ n ∧ n ≤ 40000) (hw : ∀ x, wipe ((wipe σ vs).set j (some x)) vs = wipe σ vs)
    (he : ∀ (i : Nat), (i : Int) < n → Ev te ((wipe σ vs).set j (some (.int (i : Int)))) H (v i)) : EvL (tLc (iRng1 ta) (gName j) tYes te vs) σ H ((List.range n.toNat).map v) := by
  rw [← given_all]
  exact el_lcR1 _ v h hn hw (fun _ _ _ _ => et_yes) (fun i H1 e hi _ => (he i hi).mono e)
theorem given_map (xs : List V) (f : Nat → Bool) (v : Nat → V) : (given xs.length f v).length ≤ xs.length := given_len _ f v
/-- what stands besides lists -/
def ExI (H H' : Hp) : Prop := ∀ b o, H b = some o → (∀ xs, o ≠ .lst xs) → H' b = some o
theorem ExI.of (e : Ex H H') : ExI H H' := fun b o h _ => e b o h
theorem ExI.refl : ExI H H := fun _ _ h _ => h
theorem ExI.trans {H1 H2 H3 : Hp} (a : ExI H1 H2) (b : ExI H2 H3) : ExI H1 H3 := fun c o h n => b c o (a c o h n) n
theorem ExI.upd {l : Addr} {xs ys : List V} (h : H l = some (.lst xs)) : ExI H (upd H l (.lst ys)) := fun b o hb n => by
  rw [upd_ne (show b ≠ l from fun e => by rw [e, h] at hb; exact n xs (Option.some.inj hb).symm)]
  exact hb
theorem ExI.upd' {l : Addr} {xs ys : List V} (e : ExI H H') (h : H' l = some (.lst xs)) : ExI H (L2.upd H' l (.lst ys)) := e.trans (ExI.upd h)
def Imm (P : V → Hp → Prop) : Prop := ∀ v H H', ExI H H' → P v H → P v H'
theorem Imm.mono {P : V → Hp → Prop} (m : Imm P) : Mono P := fun v H H' e p => m v H H' (ExI.of e) p
theorem ExI.rd {a : Addr} {u : HO} (e : ExI H H') (h : Rd H a u) (n : ∀ xs, u ≠ .lst xs) : Rd H' a u := by
  rcases h with h | ⟨o, h⟩
  · exact .inl (e a u h n)
  · exact .inr ⟨o, e a _ h (by intro xs z; cases z)⟩
theorem ExI.seqT {a : Addr} {xs : List V} (e : ExI H H') (h : SqT K H a xs) : SqT K H' a xs := by
  rcases h with h | h
  · exact .inl (e.rd h (by intro ys z; cases z))
  · exact .inr h
def CwP (H : Hp) (P : Nat → V → Hp → Prop) (Dl : Addr) (i : Nat) (H' : Hp) : Prop := H Dl = none ∧ Ex H H' ∧ ∃ vs, H' Dl = some (.lst vs) ∧ vs.length = i ∧ ∀ (k : Nat) (v : V), vs[k]? = some v → P k v H'
theorem cwP_turn {H H' : Hp} {P : Nat → V → Hp → Prop} (m : ∀ i, Imm (P i)) {Dl : Addr} {i : Nat} {σ2 : L2.St} (p : CwP H P Dl i H') (hi : i < 50000) (he : EvP te σ2 H (P i)) :
    te σ2 H' fun y H4 => ∃ acc, H4 Dl = some (.lst acc) ∧ acc.length < sizeLine ∧ CwP H P Dl (i + 1) (upd H4 Dl (.lst (acc ++ [y]))) := by
  obtain ⟨p1, p2, vs, p3, p4, p5⟩ := p
  refine he H' p2 _ fun y H4 e4 hy => ⟨vs, e4 Dl _ p3, sz_lt (by omega), p1, Ex.mut (p2.trans e4) p1, vs ++ [y], upd_same, by rw [List.length_append, p4]; rfl, fun k v hk => ?_⟩
  have hu : ExI H4 (upd H4 Dl (.lst (vs ++ [y]))) := ExI.upd (e4 Dl _ p3)
  rcases Nat.lt_or_ge k vs.length with h | h
  · rw [List.getElem?_append_left h] at hk
    exact m k v _ _ hu (m k v _ _ (ExI.of e4) (p5 k v hk))
  · rw [List.getElem?_append_right h] at hk
    have hk0 : k = i := by
      have := (List.getElem?_eq_some_iff.mp hk).1
      simp only [List.length_singleton] at this
      omega
    subst hk0
    have hv : v = y := by
      rw [p4, Nat.sub_self] at hk
      exact (Option.some.inj hk).symm
    subst hv
    exact m k v _ _ hu hy
theorem elp_R {ta : TA} {j : Nat} {vs : List Nat} {n : Int} {P : Nat → V → Hp → Prop} (m : ∀ i, Imm (P i)) (h : EvA ta σ H [.int n]) (hn : 0 ≤ n ∧ n ≤ 40000) (hw : ∀ x, wipe ((wipe σ vs).set j (some x)) vs = wipe σ vs)
    (he : ∀ (i : Nat), (i : Int) < n → EvP te ((wipe σ vs).set j (some (.int (i : Int)))) H (P i)) : EvLP (tLc (iRng1 ta) (gName j) tYes te vs) σ H n.toNat P := fun H0 e Q q => h H0 e _ fun H1 e1 => ⟨n, rfl, by omega, by omega, fun Dl hD =>
  lc_range (lo := 0) (n := n.toNat) (CwP H1 P Dl) ⟨hD, Ex.new hD, [], upd_same, rfl, fun k v hk => by cases hk⟩ (fun i H' hi p => by
    have e0 : (0 : Int) + (i : Int) = (i : Int) := Int.zero_add _
    show wipe ((wipe σ vs).set j (some (.int ((0 : Int) + (i : Int))))) vs = wipe σ vs ∧ te ((wipe σ vs).set j (some (.int ((0 : Int) + (i : Int))))) H' fun y H4 => ∃ acc, H4 Dl = some (.lst acc) ∧ acc.length < sizeLine ∧ CwP H1 P Dl (i + 1) (upd H4 Dl (.lst (acc ++ [y])))
    rw [e0]
    exact ⟨hw _, cwP_turn m p (by omega) ((he i (by omega)).mono (e.trans e1))⟩) (fun H' ⟨p1, p2, ws, p3, p4, p5⟩ => q Dl H' ws (fresh_back e1 p1) (e1.trans p2) p3 p4 p5)⟩
theorem elp_T {a : Addr} {xs : List V} {tl : TE} {j : Nat} {vs : List Nat} {P : Nat → V → Hp → Prop} (m : ∀ i, Imm (P i)) (h : Ev tl σ H (.ref a)) (hx : SqT K H a xs) (hz : xs.length ≤ 40000) (hw : ∀ x, wipe ((wipe σ vs).set j (some x)) vs = wipe σ vs)
    (he : ∀ (i : Nat) (x : V), xs[i]? = some x → EvP te ((wipe σ vs).set j (some x)) H (P i)) : EvLP (tLc (iTup K tl) (gName j) tYes te vs) σ H xs.length P := fun H0 e Q q => h H0 e _ fun H1 e1 => ⟨a, rfl, ⟨xs, ex_t (e.trans e1) hx⟩, fun Dl hD =>
  lc_tup (xs := xs) (CwP H1 P Dl) ⟨hD, Ex.new hD, [], upd_same, rfl, fun k v hk => by cases hk⟩ (fun i H' _ p => ex_t ((e.trans e1).trans p.2.1) hx)
    (fun i x H' hi p => ⟨hw x, cwP_turn m p (by have := (List.getElem?_eq_some_iff.mp hi).1; omega) ((he i x hi).mono (e.trans e1))⟩) (fun H' ⟨p1, p2, ws, p3, p4, p5⟩ => q Dl H' ws (fresh_back e1 p1) (e1.trans p2) p3 p4 p5)⟩
theorem elp_L {a : Addr} {xs : List V} {tl : TE} {j : Nat} {vs : List Nat} {P : Nat → V → Hp → Prop} (m : ∀ i, Imm (P i)) (h : Ev tl σ H (.ref a)) (hx : SqL K H a xs) (hz : xs.length ≤ 40000) (hw : ∀ x, wipe ((wipe σ vs).set j (some x)) vs = wipe σ vs)
    (he : ∀ (i : Nat) (x : V), xs[i]? = some x → EvP te ((wipe σ vs).set j (some x)) H (P i)) : EvLP (tLc (iList K tl) (gName j) tYes te vs) σ H xs.length P := fun H0 e Q q => h H0 e _ fun H1 e1 => ⟨a, rfl, ⟨xs, ex_l (e.trans e1) hx⟩, fun Dl hD =>
  lc_list (xs := xs) (CwP H1 P Dl) ⟨hD, Ex.new hD, [], upd_same, rfl, fun k v hk => by cases hk⟩ (fun i H' _ p => ex_l ((e.trans e1).trans p.2.1) hx)
    (fun i x H' hi p => ⟨hw x, cwP_turn m p (by have := (List.getElem?_eq_some_iff.mp hi).1; omega) ((he i x hi).mono (e.trans e1))⟩) (fun H' ⟨p1, p2, ws, p3, p4, p5⟩ => q Dl H' ws (fresh_back e1 p1) (e1.trans p2) p3 p4 p5)⟩
/-- values over a tuple, with a test -/
theorem el_lcT {a : Addr} {xs : List V} {tl : TE} {j : Nat} {vs : List Nat} (f : Nat → Bool) (v : Nat → V) (h : Ev tl σ H (.ref a)) (hx : SqT K H a xs) (hz : xs.length ≤ 40000) (hw : ∀ x, wipe ((wipe σ vs).set j (some x)) vs = wipe σ vs)
    (ht : ∀ (i : Nat) (x : V) H1, Ex H H1 → xs[i]? = some x → EvT t ((wipe σ vs).set j (some x)) H1 (f i)) (he : ∀ (i : Nat) (x : V) H1, Ex H H1 → xs[i]? = some x → f i = true → Ev te ((wipe σ vs).set j (some x)) H1 (v i)) :
    EvL (tLc (iTup K tl) (gName j) t te vs) σ H (given xs.length f v) := fun H0 e Q q => h H0 e _ fun H1 e1 => ⟨a, rfl, ⟨xs, ex_t (e.trans e1) hx⟩, fun Dl hD =>
  lc_tup (xs := xs) (Cw H1 f v Dl) ⟨hD, Ex.new hD, upd_same⟩ (fun i H' _ p => ex_t ((e.trans e1).trans p.2.1) hx) (fun i x H' hi p => ⟨hw x, cw_turn p (by have := (List.getElem?_eq_some_iff.mp hi).1; omega) (ht i x H1 (e.trans e1) hi) (fun hf => he i x H1 (e.trans e1) hi hf)⟩)
    (fun H' p => q Dl H' (fresh_back e1 p.1) (e1.trans p.2.1) p.2.2)⟩
theorem given_none (n : Nat) (v : Nat → V) : given n (fun _ => false) v = [] := by
  unfold given
  rw [List.filter_eq_nil_iff.mpr (fun _ _ => by simp)]
  rfl
theorem map_at0 (ns : List Int) (g : Int → V) : (List.range ns.length).map (fun i : Nat => g (at0 ns (i : Int))) = ns.map g := by
  apply List.ext_getElem
  · simp
  · intro i h1 h2
    simp only [List.length_map] at h2
    simp [at0, h2]
theorem at0_of {ns : List Int} {i : Nat} {x : V} (h : (ns.map V.int)[i]? = some x) : x = .int (at0 ns (i : Int)) ∧ i < ns.length := by
  have hl := (List.getElem?_eq_some_iff.mp h).1
  rw [List.length_map] at hl
  rw [List.getElem?_map, List.getElem?_eq_getElem hl] at h
  refine ⟨?_, hl⟩
  rw [← Option.some.inj h]
  unfold at0
  rw [List.getD_eq_getElem?_getD, Int.toNat_natCast, List.getElem?_eq_getElem hl]
  rfl
theorem el_mapT {a : Addr} {ns : List Int} {tl : TE} {j : Nat} {vs : List Nat} (g : Int → V) (h : Ev tl σ H (.ref a)) (hx : SqT K H a (ns.map V.int)) (hz : ns.length ≤ 40000) (hw : ∀ x, wipe ((wipe σ vs).set j (some x)) vs = wipe σ vs)
    (he : ∀ (x : Int), x ∈ ns → Ev te ((wipe σ vs).set j (some (.int x))) H (g x)) : EvL (tLc (iTup K tl) (gName j) tYes te vs) σ H (ns.map g) := by
  have := el_lcT (t := tYes) (te := te) (fun _ => true) (fun i : Nat => g (at0 ns (i : Int))) h hx (by rw [List.length_map]; exact hz) hw (fun _ _ _ _ _ => et_yes) (fun i x H1 e hi _ => by
    obtain ⟨rfl, hl⟩ := at0_of hi
    refine (he _ ?_).mono e
    unfold at0
    rw [List.getD_eq_getElem?_getD, Int.toNat_natCast, List.getElem?_eq_getElem hl]
    exact List.getElem_mem hl)
  rwa [given_all, List.length_map, map_at0] at this
theorem el_mapL {a : Addr} {ns : List Int} {tl : TE} {j : Nat} {vs : List Nat} (g : Int → V) (h : Ev tl σ H (.ref a)) (hx : SqL K H a (ns.map V.int)) (hz : ns.length ≤ 40000) (hw : ∀ x, wipe ((wipe σ vs).set j (some x)) vs = wipe σ vs)
    (he : ∀ (x : Int), x ∈ ns → Ev te ((wipe σ vs).set j (some (.int x))) H (g x)) : EvL (tLc (iList K tl) (gName j) tYes te vs) σ H (ns.map g) := by
  have := el_lcL (t := tYes) (te := te) (fun _ => true) (fun i : Nat => g (at0 ns (i : Int))) h hx (by rw [List.length_map]; exact hz) hw (fun _ _ _ _ _ => et_yes) (fun i x H1 e hi _ => by
    obtain ⟨rfl, hl⟩ := at0_of hi
    refine (he _ ?_).mono e
    unfold at0
    rw [List.getD_eq_getElem?_getD, Int.toNat_natCast, List.getElem?_eq_getElem hl]
    exact List.getElem_mem hl)
  rwa [given_all, List.length_map, map_at0] at this
end

/-! ### statements over every further heap -/
def Go (t : TS) (D : Ends) (σ : L2.St) (H : Hp) : Prop := ∀ H1, Ex H H1 → t D σ H1
def GoN (D : Ends) (σ : L2.St) (H : Hp) : Prop := ∀ H1, Ex H H1 → D.nx σ H1
section
variable {K : PySem.W.Frag} {σ : L2.St} {H H' : Hp} {ta tb te tx : TE} {t u : TT} {x y z v : V} {r : R2} {P : V → Hp → Prop} {D : Ends} {tu tw tz : TS} {g : TG}
theorem Go.at (h : Go tu D σ H) : tu D σ H := h H (Ex.refl H)
theorem Go.mono (e : Ex H H') (h : Go tu D σ H) : Go tu D σ H' := fun H1 e1 => h H1 (e.trans e1)
theorem go_next (h : GoN D σ H) : Go tNext D σ H := h
theorem gn_of (h : ∀ H1, Ex H H1 → D.nx σ H1) : GoN D σ H := h
theorem go_asg {i : Nat} (h : Ev te σ H v) (k : Go tz D (σ.set i (some v)) H) : Go (tSeq (tAsg te (gName i)) tz) D σ H := fun H1 e => q_asg (h.mono e) fun H2 e2 => k H2 (e.trans e2)
theorem gl_asg {i : Nat} (h : Ev te σ H v) (k : GoN D (σ.set i (some v)) H) : Go (tAsg te (gName i)) D σ H := fun H1 e => s_asg (h.mono e) fun H2 e2 => k H2 (e.trans e2)
theorem go_asgL {i : Nat} {xs : List V} (h : EvL te σ H xs) (k : ∀ p H1, H p = none → Ex H H1 → H1 p = some (.lst xs) → Go tz D (σ.set i (some (.ref p))) H1) : Go (tSeq (tAsg te (gName i)) tz) D σ H :=
  fun H1 e => q_asgL (h.mono e) fun p H2 hp e2 h2 => k p H2 (fresh_back e hp) (e.trans e2) h2 H2 (Ex.refl H2)
theorem gl_asgL {i : Nat} {xs : List V} (h : EvL te σ H xs) (k : ∀ p H1, H p = none → Ex H H1 → H1 p = some (.lst xs) → GoN D (σ.set i (some (.ref p))) H1) : Go (tAsg te (gName i)) D σ H :=
  fun H1 e => s_asgL (h.mono e) fun p H2 hp e2 h2 => k p H2 (fresh_back e hp) (e.trans e2) h2 H2 (Ex.refl H2)
theorem go_asgU {i : Nat} {xs : List V} (h : EvU te σ H xs) (k : ∀ p H1, H p = none → Ex H H1 → H1 p = some (.tup xs) → Go tz D (σ.set i (some (.ref p))) H1) : Go (tSeq (tAsg te (gName i)) tz) D σ H :=
  fun H1 e => q_asgU (EvU.mono e h) fun p H2 hp e2 h2 => k p H2 (fresh_back e hp) (e.trans e2) h2 H2 (Ex.refl H2)
theorem gl_asgU {i : Nat} {xs : List V} (h : EvU te σ H xs) (k : ∀ p H1, H p = none → Ex H H1 → H1 p = some (.tup xs) → GoN D (σ.set i (some (.ref p))) H1) : Go (tAsg te (gName i)) D σ H :=
  fun H1 e => s_asgU (EvU.mono e h) fun p H2 hp e2 h2 => k p H2 (fresh_back e hp) (e.trans e2) h2 H2 (Ex.refl H2)
theorem go_asgP {i : Nat} (h : EvP te σ H P) (k : ∀ v H1, Ex H H1 → P v H1 → Go tz D (σ.set i (some v)) H1) : Go (tSeq (tAsg te (gName i)) tz) D σ H :=
  fun H1 e => h H1 e _ fun v H2 e2 p => k v H2 (e.trans e2) p H2 (Ex.refl H2)
theorem gl_asgP {i : Nat} (h : EvP te σ H P) (k : ∀ v H1, Ex H H1 → P v H1 → GoN D (σ.set i (some v)) H1) : Go (tAsg te (gName i)) D σ H :=
  fun H1 e => h H1 e _ fun v H2 e2 p => k v H2 (e.trans e2) p H2 (Ex.refl H2)
theorem go_if {b : Bool} (h : EvT t σ H b) (h1 : b = true → Go tu { D with nx := tz D } σ H) (h2 : b = false → Go tw { D with nx := tz D } σ H) : Go (tSeq (tIfS t tu tw) tz) D σ H :=
  fun H1 e => q_if (h.mono e) (fun hb H2 e2 => h1 hb H2 (e.trans e2)) (fun hb H2 e2 => h2 hb H2 (e.trans e2))
theorem gl_if {b : Bool} (h : EvT t σ H b) (h1 : b = true → Go tu D σ H) (h2 : b = false → Go tw D σ H) : Go (tIfS t tu tw) D σ H :=
  fun H1 e => s_if (h.mono e) (fun hb H2 e2 => h1 hb H2 (e.trans e2)) (fun hb H2 e2 => h2 hb H2 (e.trans e2))
/-- if, its test a proposition's -/
theorem go_ifd {p : Prop} [Decidable p] (h : EvT t σ H (decide p)) (h1 : p → Go tu { D with nx := tz D } σ H) (h2 : ¬ p → Go tw { D with nx := tz D } σ H) : Go (tSeq (tIfS t tu tw) tz) D σ H :=
  go_if h (fun e => h1 (of_decide_eq_true e)) (fun e => h2 (of_decide_eq_false e))
theorem gl_ifd {p : Prop} [Decidable p] (h : EvT t σ H (decide p)) (h1 : p → Go tu D σ H) (h2 : ¬ p → Go tw D σ H) : Go (tIfS t tu tw) D σ H :=
  gl_if h (fun e => h1 (of_decide_eq_true e)) (fun e => h2 (of_decide_eq_false e))
theorem go_ret (h : Ev te σ H v) (k : ∀ H1, Ex H H1 → D.rt v H1) : Go (tRet te) D σ H := fun H1 e => s_ret (h.mono e) fun H2 e2 => k H2 (e.trans e2)
theorem go_retL {xs : List V} (h : EvL te σ H xs) (k : ∀ p H1, H p = none → Ex H H1 → H1 p = some (.lst xs) → D.rt (.ref p) H1) : Go (tRet te) D σ H := fun H1 e => s_retL (h.mono e) fun p H2 hp e2 h2 => k p H2 (fresh_back e hp) (e.trans e2) h2
theorem go_retU {xs : List V} (h : EvU te σ H xs) (k : ∀ p H1, H p = none → Ex H H1 → H1 p = some (.tup xs) → D.rt (.ref p) H1) : Go (tRet te) D σ H := fun H1 e => s_retU (EvU.mono e h) fun p H2 hp e2 h2 => k p H2 (fresh_back e hp) (e.trans e2) h2
theorem go_retP (h : EvP te σ H P) (k : ∀ v H1, Ex H H1 → P v H1 → D.rt v H1) : Go (tRet te) D σ H := fun H1 e => h H1 e _ fun v H2 e2 p => k v H2 (e.trans e2) p
theorem go_drop (h : Ev te σ H v) (k : Go tz D σ H) : Go (tSeq (tDrop te) tz) D σ H := fun H1 e => q_drop (h.mono e) fun H2 e2 => k H2 (e.trans e2)
theorem go_app {l : Addr} {xs : List V} (hl : H l = some (.lst xs)) (ha : Ev ta σ H (.ref l)) (h : Ev te σ H v) (hz : xs.length < 100000) (k : ∀ H1, Ex H H1 → Go tz D σ (upd H1 l (.lst (xs ++ [v])))) :
    Go (tSeq (tDrop (tBM K "list" rAppend ta (tCons te tNil))) tz) D σ H := fun H1 e => q_app (e l _ hl) (ha.mono e) (h.mono e) hz fun H2 e2 => k H2 (e.trans e2) _ (Ex.refl _)
theorem gl_app {l : Addr} {xs : List V} (hl : H l = some (.lst xs)) (ha : Ev ta σ H (.ref l)) (h : Ev te σ H v) (hz : xs.length < 100000) (k : ∀ H1, Ex H H1 → GoN D σ (upd H1 l (.lst (xs ++ [v])))) :
    Go (tDrop (tBM K "list" rAppend ta (tCons te tNil))) D σ H := fun H1 e => s_app (e l _ hl) (ha.mono e) (h.mono e) hz fun H2 e2 => k H2 (e.trans e2) _ (Ex.refl _)
theorem gl_appP {l : Addr} {xs : List V} (hl : H l = some (.lst xs)) (ha : Ev ta σ H (.ref l)) (h : EvP te σ H P) (hz : xs.length < 100000) (k : ∀ v H1, Ex H H1 → P v H1 → GoN D σ (upd H1 l (.lst (xs ++ [v])))) :
    Go (tDrop (tBM K "list" rAppend ta (tCons te tNil))) D σ H := fun H1 e => ha H1 e _ fun H2 e2 => ⟨.inl ⟨rfl, xs, sq_of (e2 l _ (e l _ hl))⟩, h H2 (e.trans e2) _ fun v H3 e3 p =>
      ⟨l, xs, v, rfl, rfl, e3 l _ (e2 l _ (e l _ hl)), sz_lt hz, k v H3 ((e.trans e2).trans e3) p _ (Ex.refl _)⟩⟩
theorem go_appP {l : Addr} {xs : List V} (hl : H l = some (.lst xs)) (ha : Ev ta σ H (.ref l)) (h : EvP te σ H P) (hz : xs.length < 100000) (k : ∀ v H1, Ex H H1 → P v H1 → Go tz D σ (upd H1 l (.lst (xs ++ [v])))) :
    Go (tSeq (tDrop (tBM K "list" rAppend ta (tCons te tNil))) tz) D σ H := gl_appP (D := { D with nx := tz D }) hl ha h hz k
theorem go_setL {l : Addr} {xs : List V} {i : Int} (hl : H l = some (.lst xs)) (h : Ev te σ H v) (ho : Ev ta σ H (.ref l)) (hi : Ev tb σ H (.int i)) (h0 : 0 ≤ i) (h1 : i < (xs.length : Int)) (k : ∀ H1, Ex H H1 → Go tz D σ (upd H1 l (.lst (xs.set i.toNat v)))) :
    Go (tSeq (tAsg te (gSub ta tb rSetL)) tz) D σ H := by
  obtain ⟨j, rfl⟩ := Int.eq_ofNat_of_zero_le h0
  exact fun H1 e => q_setL (e l _ hl) (h.mono e) (ho.mono e) (hi.mono e) (by omega) fun H2 e2 => k H2 (e.trans e2) _ (Ex.refl _)
theorem gl_setL {l : Addr} {xs : List V} {i : Int} (hl : H l = some (.lst xs)) (h : Ev te σ H v) (ho : Ev ta σ H (.ref l)) (hi : Ev tb σ H (.int i)) (h0 : 0 ≤ i) (h1 : i < (xs.length : Int)) (k : ∀ H1, Ex H H1 → GoN D σ (upd H1 l (.lst (xs.set i.toNat v)))) :
    Go (tAsg te (gSub ta tb rSetL)) D σ H := by
  obtain ⟨j, rfl⟩ := Int.eq_ofNat_of_zero_le h0
  exact fun H1 e => s_setL (e l _ hl) (h.mono e) (ho.mono e) (hi.mono e) (by omega) fun H2 e2 => k H2 (e.trans e2) _ (Ex.refl _)
theorem go_forR1 {ta : TA} {j : Nat} {n : Int} (h : EvA ta σ H [.int n]) (hn : 0 ≤ n ∧ n ≤ 100000) (Pv : Nat → L2.St → Hp → Prop) (h0 : ∀ H1, Ex H H1 → Pv 0 σ H1)
    (hs : ∀ (i : Nat) σ' H', (i : Int) < n → Pv i σ' H' → Go tu { D with nx := Pv (i + 1), ct := Pv (i + 1), bk := tz D } (σ'.set j (some (.int (i : Int)))) H') (hd : ∀ σ' H', Pv n.toNat σ' H' → Go tz D σ' H') : Go (tSeq (tFor (iRng1 ta) (gName j) tu) tz) D σ H :=
  fun H1 e => q_forR1 (h.mono e) hn Pv (fun H2 e2 => h0 H2 (e.trans e2)) (fun i σ' H' hi p => (hs i σ' H' hi p).at) (fun σ' H' p => (hd σ' H' p).at)
theorem gl_forR1 {ta : TA} {j : Nat} {n : Int} (h : EvA ta σ H [.int n]) (hn : 0 ≤ n ∧ n ≤ 100000) (Pv : Nat → L2.St → Hp → Prop) (h0 : ∀ H1, Ex H H1 → Pv 0 σ H1)
    (hs : ∀ (i : Nat) σ' H', (i : Int) < n → Pv i σ' H' → Go tu { D with nx := Pv (i + 1), ct := Pv (i + 1), bk := D.nx } (σ'.set j (some (.int (i : Int)))) H') (hd : ∀ σ' H', Pv n.toNat σ' H' → GoN D σ' H') : Go (tFor (iRng1 ta) (gName j) tu) D σ H :=
  fun H1 e => s_forR1 (h.mono e) hn Pv (fun H2 e2 => h0 H2 (e.trans e2)) (fun i σ' H' hi p => (hs i σ' H' hi p).at) (fun σ' H' p => hd σ' H' p H' (Ex.refl H'))
theorem go_forT {a : Addr} {xs : List V} {tl : TE} {j : Nat} (h : Ev tl σ H (.ref a)) (hx : SqT K H a xs) (Pv : Nat → L2.St → Hp → Prop) (h0 : ∀ H1, Ex H H1 → Pv 0 σ H1) (hl : ∀ i σ' H', i ≤ xs.length → Pv i σ' H' → SqT K H' a xs)
    (hs : ∀ i x σ' H', xs[i]? = some x → Pv i σ' H' → Go tu { D with nx := Pv (i + 1), ct := Pv (i + 1), bk := tz D } (σ'.set j (some x)) H') (hd : ∀ σ' H', Pv xs.length σ' H' → Go tz D σ' H') : Go (tSeq (tFor (iTup K tl) (gName j) tu) tz) D σ H :=
  fun H1 e => q_forT (h.mono e) (ex_t e hx) Pv (fun H2 e2 => h0 H2 (e.trans e2)) hl (fun i x σ' H' hi p => (hs i x σ' H' hi p).at) (fun σ' H' p => (hd σ' H' p).at)
theorem go_forL {a : Addr} {xs : List V} {tl : TE} {j : Nat} (h : Ev tl σ H (.ref a)) (hx : SqL K H a xs) (Pv : Nat → L2.St → Hp → Prop) (h0 : ∀ H1, Ex H H1 → Pv 0 σ H1) (hl : ∀ i σ' H', i ≤ xs.length → Pv i σ' H' → SqL K H' a xs)
    (hs : ∀ i x σ' H', xs[i]? = some x → Pv i σ' H' → Go tu { D with nx := Pv (i + 1), ct := Pv (i + 1), bk := tz D } (σ'.set j (some x)) H') (hd : ∀ σ' H', Pv xs.length σ' H' → Go tz D σ' H') : Go (tSeq (tFor (iList K tl) (gName j) tu) tz) D σ H :=
  fun H1 e => q_forL (h.mono e) (ex_l e hx) Pv (fun H2 e2 => h0 H2 (e.trans e2)) hl (fun i x σ' H' hi p => (hs i x σ' H' hi p).at) (fun σ' H' p => (hd σ' H' p).at)
/-- the loop inside another loop: the last statement of a body -/
theorem gl_forT {a : Addr} {xs : List V} {tl : TE} {j : Nat} (h : Ev tl σ H (.ref a)) (hx : SqT K H a xs) (Pv : Nat → L2.St → Hp → Prop) (h0 : ∀ H1, Ex H H1 → Pv 0 σ H1) (hl : ∀ i σ' H', i ≤ xs.length → Pv i σ' H' → SqT K H' a xs)
    (hs : ∀ i x σ' H', xs[i]? = some x → Pv i σ' H' → Go tu { D with nx := Pv (i + 1), ct := Pv (i + 1), bk := D.nx } (σ'.set j (some x)) H') (hd : ∀ σ' H', Pv xs.length σ' H' → GoN D σ' H') : Go (tFor (iTup K tl) (gName j) tu) D σ H :=
  fun H1 e => s_forT (h.mono e) (ex_t e hx) Pv (fun H2 e2 => h0 H2 (e.trans e2)) hl (fun i x σ' H' hi p => (hs i x σ' H' hi p).at) (fun σ' H' p => hd σ' H' p H' (Ex.refl H'))
theorem go_while (W : Nat → L2.St → Hp → Prop) (m0 : Nat) (h0 : ∀ H1, Ex H H1 → W m0 σ H1)
    (hs : ∀ m σ' H', W m σ' H' → ∃ b, EvT t σ' H' b ∧ (b = true → ∃ N : L2.St → Hp → Prop, (∀ σ2 H2, N σ2 H2 → ∃ m', m' < m ∧ W m' σ2 H2) ∧ Go tu { D with nx := N, ct := N, bk := tz D } σ' H') ∧ (b = false → Go tz D σ' H')) : Go (tSeq (tWhile t tu) tz) D σ H :=
  fun H1 e => q_while W m0 (h0 H1 e) fun m σ' H' hw => by
    obtain ⟨b, hb, h1, h2⟩ := hs m σ' H' hw
    exact ⟨b, hb, fun e H2 e2 => by obtain ⟨N, hN, k⟩ := h1 e; exact ⟨N, hN, k H2 e2⟩, fun e H2 e2 => h2 e H2 e2⟩
end

/-! ### boards -/
def rowOf (w : Nat) (f : Int → Int) : List Int := (List.range w).map fun x : Nat => f (x : Int)
def mk (h w : Nat) (f : Int → Int → Int) : List (List Int) := (List.range h).map fun y : Nat => rowOf w (f (y : Int))
def RwV (K : PySem.W.Frag) (r : List Int) (v : V) (H : Hp) : Prop := ∃ a, v = .ref a ∧ SqT K H a (r.map V.int)
def BdV (K : PySem.W.Frag) (B : List (List Int)) (v : V) (H : Hp) : Prop := ∃ p vs, v = .ref p ∧ SqT K H p vs ∧ vs.length = B.length ∧ ∀ (i : Nat) (u : V) (r : List Int), vs[i]? = some u → B[i]? = some r → RwV K r u H
section
variable {K : PySem.W.Frag} {σ : L2.St} {H H' : Hp} {ta tb te tx ty : TE} {t u : TT} {x y z v : V} {B C : List (List Int)}
theorem rw_imm (r : List Int) : Imm (RwV K r) := fun v H H' e ⟨a, h, hs⟩ => ⟨a, h, e.seqT hs⟩
theorem bd_imm (B : List (List Int)) : Imm (BdV K B) := fun v H H' e ⟨p, vs, h, hs, hl, hr⟩ => ⟨p, vs, h, e.seqT hs, hl, fun i u r h1 h2 => rw_imm r u H H' e (hr i u r h1 h2)⟩
theorem BdV.up (e : Ex H H') (h : BdV K B v H) : BdV K B v H' := bd_imm B v H H' (ExI.of e) h
theorem len_mk (h w : Nat) (f : Int → Int → Int) : (mk h w f).length = h := by unfold mk; simp
theorem len_rowOf (w : Nat) (f : Int → Int) : (rowOf w f).length = w := by unfold rowOf; simp
theorem mk_get {h w : Nat} {f : Int → Int → Int} {i : Nat} (hi : i < h) : (mk h w f)[i]? = some (rowOf w (f (i : Int))) := by
  unfold mk
  rw [List.getElem?_map, List.getElem?_range hi]
  rfl
theorem at0_rowOf {w : Nat} {f : Int → Int} {i : Int} (h0 : 0 ≤ i) (h1 : i < (w : Int)) : at0 (rowOf w f) i = f i := by
  obtain ⟨j, rfl⟩ := Int.eq_ofNat_of_zero_le h0
  have hj : j < w := by omega
  unfold at0 rowOf
  rw [List.getD_eq_getElem?_getD, List.getElem?_map, Int.toNat_natCast, List.getElem?_range hj]
  rfl
theorem bd_of {h w : Nat} {f : Int → Int → Int} (hp : TupP K h (fun i => RwV K (rowOf w (f (i : Int)))) v H) : BdV K (mk h w f) v H := by
  obtain ⟨p, vs, rfl, hs, hl, hr⟩ := hp
  refine ⟨p, vs, rfl, hs, by rw [len_mk, hl], fun i u r h1 h2 => ?_⟩
  have hi : i < h := by rw [← hl]; exact (List.getElem?_eq_some_iff.mp h1).1
  rw [mk_get hi] at h2
  rw [← Option.some.inj h2]
  exact hr i u h1
theorem bd_row {i : Nat} {r : List Int} {p : Addr} {vs : List V} (hl : vs.length = B.length) (hr : ∀ (i : Nat) (u : V) (r : List Int), vs[i]? = some u → B[i]? = some r → RwV K r u H) (h : B[i]? = some r) : ∃ a, vs[i]? = some (.ref a) ∧ SqT K H a (r.map V.int) := by
  have hi : i < vs.length := by rw [hl]; exact (List.getElem?_eq_some_iff.mp h).1
  obtain ⟨a, e, hs⟩ := hr i vs[i] r (List.getElem?_eq_getElem hi) h
  exact ⟨a, by rw [List.getElem?_eq_getElem hi, e], hs⟩
/-- len(board), board[y], board[y][x] -/
theorem ev_lenB (ha : Ev ta σ H v) (hb : BdV K B v H) : Ev (tCB (rLenS K) (tCons ta tNil)) σ H (.int (B.length : Int)) := by
  obtain ⟨p, vs, rfl, hs, hl, _⟩ := hb
  rw [← hl]
  exact ev_lenT ha hs
theorem ev_lenM {h w : Nat} {f : Int → Int → Int} (ha : Ev ta σ H v) (hb : BdV K (mk h w f) v H) : Ev (tCB (rLenS K) (tCons ta tNil)) σ H (.int (h : Int)) := by
  have := ev_lenB ha hb
  rwa [len_mk] at this
theorem ep_row {h w : Nat} {f : Int → Int → Int} {i : Int} (ha : Ev ta σ H v) (hi : Ev ty σ H (.int i)) (hb : BdV K (mk h w f) v H) (h0 : 0 ≤ i) (h1 : i < (h : Int)) :
    ∃ a, Ev (tOp (rIxT K) ta ty) σ H (.ref a) ∧ SqT K H a ((rowOf w (f i)).map V.int) := by
  obtain ⟨j, rfl⟩ := Int.eq_ofNat_of_zero_le h0
  obtain ⟨p, vs, rfl, hs, hl, hr⟩ := hb
  obtain ⟨a, e, q⟩ := bd_row (p := p) hl hr (mk_get (w := w) (f := f) (show j < h by omega))
  exact ⟨a, ev_ixT ha hi hs (atI_nat e), q⟩
theorem ev_cell {h w : Nat} {f : Int → Int → Int} {i j : Int} (ha : Ev ta σ H v) (hy : Ev ty σ H (.int i)) (hx : Ev tx σ H (.int j)) (hb : BdV K (mk h w f) v H) (h0 : 0 ≤ i) (h1 : i < (h : Int)) (h2 : 0 ≤ j) (h3 : j < (w : Int)) :
    Ev (tOp (rIxT K) (tOp (rIxT K) ta ty) tx) σ H (.int (f i j)) := by
  obtain ⟨a, hr, hs⟩ := ep_row ha hy hb h0 h1
  have := ev_ixTI hr hx hs h2 (by rw [len_rowOf]; exact h3)
  rwa [at0_rowOf h2 h3] at this
/-- len(board[0]) -/
theorem ev_wide {h w : Nat} {f : Int → Int → Int} (h0 : 0 < h) (ha : Ev ta σ H v) (hi : Ev ty σ H (.int 0)) (hb : BdV K (mk h w f) v H) : Ev (tCB (rLenS K) (tCons (tOp (rIxT K) ta ty) tNil)) σ H (.int (w : Int)) := by
  obtain ⟨a, hr, hs⟩ := ep_row ha hi hb (Int.le_refl 0) (by omega)
  have := ev_lenTI hr hs
  rwa [len_rowOf] at this
/-- [.. for x in range(w)] as a tuple -/
theorem ep_rowR {w : Nat} {f : Int → Int} {n : Int} {ta : TA} {j : Nat} {vs : List Nat} (hwn : n = (w : Int)) (hn : w ≤ 40000) (h : EvA ta σ H [.int n]) (hw : ∀ x, wipe ((wipe σ vs).set j (some x)) vs = wipe σ vs)
    (he : ∀ (i : Nat), (i : Int) < w → Ev te ((wipe σ vs).set j (some (.int (i : Int)))) H (.int (f (i : Int)))) :
    EvP (tCB (rTupS K) (tCons (tLc (iRng1 ta) (gName j) tYes te vs) tNil)) σ H (RwV K (rowOf w f)) := by
  subst hwn
  refine ep_U (eu_tupL (el_mapR (fun i => V.int (f (i : Int))) h ⟨by omega, by omega⟩ hw he)) fun p H1 e hp => ⟨p, rfl, st_of ?_⟩
  rw [hp, Int.toNat_natCast]
  unfold rowOf
  rw [List.map_map]
  rfl
/-! == of boards, of lists of ints -/
def rwD (r : List Int) : PyData := .tuple (r.map PyData.int)
def bdD (B : List (List Int)) : PyData := .tuple (B.map rwD)
theorem dpI : ∀ (ns : List Int), DpAll K H (ns.map V.int) (ns.map PyData.int)
  | [] => .nil
  | n :: r => .cons (.int n) (dpI r)
theorem rw_dp {r : List Int} (h : RwV K r v H) : Dp K H v (rwD r) := by
  obtain ⟨a, rfl, hs⟩ := h
  exact .tup hs (dpI r)
theorem bd_all : ∀ {vs : List V} {B : List (List Int)}, vs.length = B.length → (∀ (i : Nat) (u : V) (r : List Int), vs[i]? = some u → B[i]? = some r → RwV K r u H) → DpAll K H vs (B.map rwD)
  | [], [], _, _ => .nil
  | [], _ :: _, h, _ => by simp at h
  | _ :: _, [], h, _ => by simp at h
  | u :: vs, r :: B, h, hr => .cons (rw_dp (hr 0 u r rfl rfl)) (bd_all (by simpa using h) fun i u' r' h1 h2 => hr (i + 1) u' r' h1 h2)
theorem bd_dp (h : BdV K B v H) : Dp K H v (bdD B) := by
  obtain ⟨p, vs, rfl, hs, hl, hr⟩ := h
  exact .tup hs (bd_all hl hr)
theorem eqvI : ∀ (ns ms : List Int), PyData.eqvAll (ns.map PyData.int) (ms.map PyData.int) = decide (ns = ms)
  | [], [] => rfl
  | [], _ :: _ => rfl
  | _ :: _, [] => rfl
  | a :: r, b :: s => by
    show (PyData.eqv (.int a) (.int b) && PyData.eqvAll (r.map PyData.int) (s.map PyData.int)) = _
    rw [eqvI r s, show PyData.eqv (.int a) (.int b) = (a == b) from by rw [PyData.eqv]]
    by_cases h1 : a = b <;> by_cases h2 : r = s <;> simp [h1, h2]
theorem eqvB : ∀ (B C : List (List Int)), PyData.eqvAll (B.map rwD) (C.map rwD) = decide (B = C)
  | [], [] => rfl
  | [], _ :: _ => rfl
  | _ :: _, [] => rfl
  | a :: r, b :: s => by
    show (PyData.eqv (rwD a) (rwD b) && PyData.eqvAll (r.map rwD) (s.map rwD)) = _
    rw [eqvB r s, show PyData.eqv (rwD a) (rwD b) = decide (a = b) from by unfold rwD; rw [PyData.eqv, eqvI]]
    by_cases h1 : a = b <;> by_cases h2 : r = s <;> simp [h1, h2]
theorem eqv_bd : PyData.eqv (bdD B) (bdD C) = decide (B = C) := by
  unfold bdD
  rw [PyData.eqv, eqvB]
theorem layI : ∀ (ns : List Int), PyData.canLayAll0 (ns.map PyData.int) = true ∧ PyData.depthAll (ns.map PyData.int) ≤ 1
  | [] => ⟨rfl, by simp [PyData.depthAll]⟩
  | n :: r => by
    obtain ⟨h1, h2⟩ := layI r
    refine ⟨?_, ?_⟩
    · simp [PyData.canLayAll0, PyData.canLay0, h1]
    · simp only [List.map_cons, PyData.depthAll, PyData.depth]
      omega
theorem layB : ∀ (B : List (List Int)), PyData.canLayAll0 (B.map rwD) = true ∧ PyData.depthAll (B.map rwD) ≤ 3
  | [] => ⟨rfl, by simp [PyData.depthAll]⟩
  | b :: r => by
    obtain ⟨h1, h2⟩ := layB r
    obtain ⟨h3, h4⟩ := layI b
    refine ⟨?_, ?_⟩
    · simp [PyData.canLayAll0, PyData.canLay0, rwD, h1, h3]
    · simp only [List.map_cons, PyData.depthAll, PyData.depth, rwD]
      omega
theorem shaped_bd : SeqAt.shaped (bdD B) = true := by
  obtain ⟨h1, h2⟩ := layB B
  unfold SeqAt.shaped bdD
  simp only [PyData.canLay0, PyData.depth, h1, Bool.true_and]
  exact decide_eq_true (by omega)
theorem shaped_rw (r : List Int) : SeqAt.shaped (rwD r) = true := by
  obtain ⟨h1, h2⟩ := layI r
  unfold SeqAt.shaped rwD
  simp only [PyData.canLay0, PyData.depth, h1, Bool.true_and]
  exact decide_eq_true (by omega)
theorem shaped_l (r : List Int) : SeqAt.shaped (.list (r.map PyData.int)) = true := by
  obtain ⟨h1, h2⟩ := layI r
  unfold SeqAt.shaped
  simp only [PyData.canLay0, PyData.depth, h1, Bool.true_and]
  exact decide_eq_true (by omega)
theorem rv_eqB (h1 : BdV K B x H) (h2 : BdV K C y H) : RV (rEqD K) x y H (.bl (decide (B = C))) :=
  fun H1 e Q q => ⟨bdD B, bdD C, bd_dp (h1.up e), bd_dp (h2.up e), shaped_bd, shaped_bd, by rw [eqv_bd]; exact q H1 (Ex.refl H1)⟩
theorem rv_neB (h1 : BdV K B x H) (h2 : BdV K C y H) : RV (rNeD K) x y H (.bl (decide (B ≠ C))) :=
  fun H1 e Q q => ⟨bdD B, bdD C, bd_dp (h1.up e), bd_dp (h2.up e), shaped_bd, shaped_bd, by rw [eqv_bd, ← decide_not]; exact q H1 (Ex.refl H1)⟩
theorem rv_eqL {p q : Addr} {ns ms : List Int} (h1 : SqL K H p (ns.map V.int)) (h2 : SqL K H q (ms.map V.int)) : RV (rEqD K) (.ref p) (.ref q) H (.bl (decide (ns = ms))) :=
  fun H1 e Q k => ⟨_, _, .lst (ex_l e h1) (dpI ns), .lst (ex_l e h2) (dpI ms), shaped_l ns, shaped_l ms, by rw [PyData.eqv, eqvI]; exact k H1 (Ex.refl H1)⟩
theorem rv_neL {p q : Addr} {ns ms : List Int} (h1 : SqL K H p (ns.map V.int)) (h2 : SqL K H q (ms.map V.int)) : RV (rNeD K) (.ref p) (.ref q) H (.bl (decide (ns ≠ ms))) :=
  fun H1 e Q k => ⟨_, _, .lst (ex_l e h1) (dpI ns), .lst (ex_l e h2) (dpI ms), shaped_l ns, shaped_l ms, by rw [PyData.eqv, eqvI, ← decide_not]; exact k H1 (Ex.refl H1)⟩
theorem rv_eqT {ns ms : List Int} (h1 : RwV K ns x H) (h2 : RwV K ms y H) : RV (rEqD K) x y H (.bl (decide (ns = ms))) :=
  fun H1 e Q k => ⟨_, _, rw_dp (rw_imm ns x _ _ (ExI.of e) h1), rw_dp (rw_imm ms y _ _ (ExI.of e) h2), shaped_rw ns, shaped_rw ms, by unfold rwD; rw [PyData.eqv, eqvI]; exact k H1 (Ex.refl H1)⟩
theorem rv_neT {ns ms : List Int} (h1 : RwV K ns x H) (h2 : RwV K ms y H) : RV (rNeD K) x y H (.bl (decide (ns ≠ ms))) :=
  fun H1 e Q k => ⟨_, _, rw_dp (rw_imm ns x _ _ (ExI.of e) h1), rw_dp (rw_imm ms y _ _ (ExI.of e) h2), shaped_rw ns, shaped_rw ms, by unfold rwD; rw [PyData.eqv, eqvI, ← decide_not]; exact k H1 (Ex.refl H1)⟩
/-! isinstance of a value whose type is known -/
theorem rc_isi {x c : V} {t u : Value} {b : Bool} (k : ClsV c u) (ty : ∀ H1, Ex H H1 → TyX K H1 x t) (h : PySem.W.kitOne K t u = some b) : RC (rIsi K) [x, c] H (.bl b) := fun H1 e Q q => ⟨x, c, t, u, b, rfl, k, ty H1 e, h, q H1 (Ex.refl H1)⟩
theorem tyx_t {a : Addr} {xs : List V} (h : SqT K H a xs) : TyX K H (.ref a) (.type "tuple") := by
  rcases h with (h | ⟨o, h⟩) | ⟨o, its, n, h, hc, _⟩
  · exact .base (.tup h)
  · exact .fTuple h
  · exact .kTuple h hc
theorem tyx_l {a : Addr} {xs : List V} (h : SqL K H a xs) : TyX K H (.ref a) (.type "list") := by
  rcases h with (h | ⟨o, h⟩) | ⟨o, its, n, h, hc, _⟩
  · exact .base (.lst h)
  · exact .base (.frz h)
  · exact .kList h hc
end
/-! ### boards that are equal -/
theorem mk_congr {h w : Nat} {f g : Int → Int → Int} (e : ∀ (y x : Int), 0 ≤ y → y < h → 0 ≤ x → x < w → f y x = g y x) : mk h w f = mk h w g := by
  unfold mk rowOf
  apply List.map_congr_left
  intro y hy
  apply List.map_congr_left
  intro x hx
  have h1 := List.mem_range.mp hy
  have h2 := List.mem_range.mp hx
  exact e _ _ (by omega) (by omega) (by omega) (by omega)
theorem mk_inj {h w : Nat} {f g : Int → Int → Int} (e : mk h w f = mk h w g) {y x : Int} (h0 : 0 ≤ y) (h1 : y < h) (h2 : 0 ≤ x) (h3 : x < w) : f y x = g y x := by
  obtain ⟨i, rfl⟩ := Int.eq_ofNat_of_zero_le h0
  have e1 : (mk h w f)[i]? = (mk h w g)[i]? := by rw [e]
  rw [mk_get (show i < h by omega), mk_get (show i < h by omega)] at e1
  have e2 := Option.some.inj e1
  rw [← at0_rowOf (f := f i) h2 h3, ← at0_rowOf (f := g i) h2 h3, e2]
/-! ### calls of builtins, by relations with a name -/
section
variable {X : Cx}
theorem call_lenS : CallR X (.builtin "len") (rLenS X.K) := call_len_seq
theorem call_listS : CallR X (.type "list") (rListS X.K) := call_list_of
theorem call_tupS : CallR X (.type "tuple") (rTupS X.K) := call_tuple_of
theorem call_min2S (hc : X.calm = true) : CallR X (.builtin "min") rMin2 := call_min2 hc
theorem call_int1S : CallR X (.type "int") rInt1 := call_int1
theorem op_geS : OpR X (compareOp .GtE) (rI0 fun i j => .bl (decide (j ≤ i))) := op_ge
end
/-! ### the body's context of a def -/
theorem spv_of {sp : Sp} {vs : List V} {H : Hp} {z : V} (h : ∀ H1, Ex H H1 → ∀ Q : VK, RetV z H1 Q → ∀ E : XK, sp vs H1 Q E) : SpV sp vs H z := h
/-! ### sum of a tuple of ints -/
def rSumT (K : PySem.W.Frag) : List V → Hp → VK → Prop := fun vs H Q => ∃ (a : Addr) (ns : List Int), vs = [V.ref a] ∧ SqT K H a (ns.map V.int) ∧ Q (.int ns.sum) H
theorem cr_sumT {X : Cx} (hc : X.calm = true) : CallR X (.builtin "sum") (rSumT X.K) := by
  intro pins s σ H vs us Q I r h
  obtain ⟨a, ns, rfl, hs, q⟩ := h
  obtain ⟨its, rv, hl, _⟩ := I.tuple hs
  rw [Vals.ref1 r]
  obtain ⟨xs, e⟩ := (Vals.ints rv).allInts.items
  have hn : numsOf (intItems xs).toList = ns := by rw [← e]; exact (Vals.ints rv).numsOf
  rw [nums_intItems] at hn
  rw [e] at hl
  refine PySem.W.ktm_sumG (I.ok.hd hc) hl fun h' tk t' hk => ?_
  rw [preSum_eq, List.take_of_length_le (by simp), hn]
  exact ⟨.int _, H, I.kept hk, ⟨_, rfl⟩, q⟩
section
variable {K : PySem.W.Frag} {σ : L2.St} {H H' : Hp} {ta tb te tx : TE} {t u : TT} {x y z v : V} {r : R2} {P : V → Hp → Prop} {D : Ends} {tu tw tz : TS}
theorem ev_sumT {p : Addr} {ns : List Int} (ha : Ev ta σ H (.ref p)) (h : SqT K H p (ns.map V.int)) : Ev (tCB (rSumT K) (tCons ta tNil)) σ H (.int ns.sum) :=
  fun H1 e Q q => ha H1 e _ fun H2 e2 => ⟨p, ns, rfl, ex_t (e.trans e2) h, q H2 e2⟩
/-- if without else -/
theorem go_when {p : Prop} [Decidable p] (h : EvT t σ H (decide p)) (h1 : p → Go tu { D with nx := tz D } σ H) (h2 : ¬ p → Go tz D σ H) : Go (tSeq (tIfS t tu tNext) tz) D σ H := go_ifd h h1 h2
theorem go_whenb {b : Bool} (h : EvT t σ H b) (h1 : b = true → Go tu { D with nx := tz D } σ H) (h2 : b = false → Go tz D σ H) : Go (tSeq (tIfS t tu tNext) tz) D σ H := go_if h h1 h2
theorem gl_when {p : Prop} [Decidable p] (h : EvT t σ H (decide p)) (h1 : p → Go tu D σ H) (h2 : ¬ p → GoN D σ H) : Go (tIfS t tu tNext) D σ H := gl_ifd h h1 h2
theorem gl_whenb {b : Bool} (h : EvT t σ H b) (h1 : b = true → Go tu D σ H) (h2 : b = false → GoN D σ H) : Go (tIfS t tu tNext) D σ H := gl_if h h1 h2
/-- a test that is false, its branch never taken -/
theorem go_not {b : Bool} (h : EvT t σ H b) (hb : b = false) (h2 : Go tz D σ H) : Go (tSeq (tIfS t tu tNext) tz) D σ H := go_whenb h (fun e => by rw [hb] at e; cases e) (fun _ => h2)
end
/-! ### a word behind an if -/
section
variable {K : PySem.W.Frag} {σ : L2.St} {H H' : Hp} {ta tb te tx : TE} {t u : TT} {D : Ends} {tu tw tz : TS}
theorem go_cut (M : L2.St → Hp → Prop) (h : Go tu { D with nx := M } σ H) (k : ∀ σ' H', M σ' H' → Go tz D σ' H') : Go (tCut tu tz) D σ H := fun H1 e => ⟨M, h H1 e, fun σ' H' m => (k σ' H' m).at⟩
theorem go_cutIf {b : Bool} (M : L2.St → Hp → Prop) (h : EvT t σ H b) (h1 : b = true → Go tu { D with nx := M } σ H) (h2 : b = false → Go tw { D with nx := M } σ H) (k : ∀ σ' H', M σ' H' → Go tz D σ' H') : Go (tCut (tIfS t tu tw) tz) D σ H :=
  go_cut M (gl_if h h1 h2) k
theorem go_cutIfd {p : Prop} [Decidable p] (M : L2.St → Hp → Prop) (h : EvT t σ H (decide p)) (h1 : p → Go tu { D with nx := M } σ H) (h2 : ¬ p → Go tw { D with nx := M } σ H) (k : ∀ σ' H', M σ' H' → Go tz D σ' H') : Go (tCut (tIfS t tu tw) tz) D σ H :=
  go_cut M (gl_ifd h h1 h2) k
end
/-! ### methods of lists as statements -/
def rInsert : V → List V → Hp → VK → Prop := fun x vs H Q => ∃ (l : Addr) (xs : List V) (i : Int) (y : V), x = .ref l ∧ vs = [.int i, y] ∧ H l = some (.lst xs) ∧ xs.length < sizeLine ∧ 0 ≤ i ∧ i < 2 ^ 63 ∧ Q .non (upd H l (.lst (xs.take i.toNat ++ [y] ++ xs.drop i.toNat)))
section
variable {K : PySem.W.Frag} {σ : L2.St} {H H' : Hp} {ta tb te tx : TE} {t u : TT} {x y z v : V} {P : V → Hp → Prop} {D : Ends} {tu tw tz : TS}
theorem gl_rev {l : Addr} {xs : List V} (hl : H l = some (.lst xs)) (ha : Ev ta σ H (.ref l)) (k : ∀ H1, Ex H H1 → GoN D σ (upd H1 l (.lst xs.reverse))) : Go (tDrop (tBM0 K "list" rReverse ta)) D σ H :=
  fun H1 e => ha H1 e _ fun H2 e2 => ⟨.inl ⟨rfl, xs, sq_of (e2 l _ (e l _ hl))⟩, l, xs, rfl, rfl, e2 l _ (e l _ hl), k H2 (e.trans e2) _ (Ex.refl _)⟩
theorem gl_clear {l : Addr} {xs : List V} (hl : H l = some (.lst xs)) (ha : Ev ta σ H (.ref l)) (k : ∀ H1, Ex H H1 → GoN D σ (upd H1 l (.lst []))) : Go (tDrop (tBM0 K "list" rClear ta)) D σ H :=
  fun H1 e => ha H1 e _ fun H2 e2 => ⟨.inl ⟨rfl, xs, sq_of (e2 l _ (e l _ hl))⟩, l, xs, rfl, rfl, e2 l _ (e l _ hl), k H2 (e.trans e2) _ (Ex.refl _)⟩
theorem go_clear {l : Addr} {xs : List V} (hl : H l = some (.lst xs)) (ha : Ev ta σ H (.ref l)) (k : ∀ H1, Ex H H1 → Go tz D σ (upd H1 l (.lst []))) : Go (tSeq (tDrop (tBM0 K "list" rClear ta)) tz) D σ H := gl_clear (D := { D with nx := tz D }) hl ha k
theorem gl_ins0 {l : Addr} {xs : List V} (hl : H l = some (.lst xs)) (ha : Ev ta σ H (.ref l)) (hi : Ev tb σ H (.int 0)) (h : Ev te σ H v) (hz : xs.length < 100000) (k : ∀ H1, Ex H H1 → GoN D σ (upd H1 l (.lst (v :: xs)))) : Go (tDrop (tBM K "list" rInsert ta (tCons tb (tCons te tNil)))) D σ H :=
  fun H1 e => ha H1 e _ fun H2 e2 => ⟨.inl ⟨rfl, xs, sq_of (e2 l _ (e l _ hl))⟩, hi H2 (e.trans e2) _ fun H3 e3 => h H3 ((e.trans e2).trans e3) _ fun H4 e4 =>
    ⟨l, xs, 0, v, rfl, rfl, e4 l _ (e3 l _ (e2 l _ (e l _ hl))), sz_lt hz, by decide, by decide, k H4 (((e.trans e2).trans e3).trans e4) _ (Ex.refl _)⟩⟩
theorem go_ins0 {l : Addr} {xs : List V} (hl : H l = some (.lst xs)) (ha : Ev ta σ H (.ref l)) (hi : Ev tb σ H (.int 0)) (h : Ev te σ H v) (hz : xs.length < 100000) (k : ∀ H1, Ex H H1 → Go tz D σ (upd H1 l (.lst (v :: xs)))) : Go (tSeq (tDrop (tBM K "list" rInsert ta (tCons tb (tCons te tNil)))) tz) D σ H :=
  gl_ins0 (D := { D with nx := tz D }) hl ha hi h hz k
end
theorem mt_insertS {X : Cx} : MtR X "list.insert" rInsert := mt_insert
/-! ### more -/
section
variable {K : PySem.W.Frag} {σ : L2.St} {H H' : Hp} {ta tb te tx : TE} {t u : TT} {x y z v : V} {P : V → Hp → Prop} {D : Ends} {tu tw tz : TS}
def ranI (n : Nat) (f : Int → Int) : List Int := (List.range n).map fun i : Nat => f (i : Int)
theorem len_ranI (n : Nat) (f : Int → Int) : (ranI n f).length = n := by unfold ranI; simp
theorem ranI_succ (n : Nat) (f : Int → Int) : ranI (n + 1) f = ranI n f ++ [f n] := by unfold ranI; rw [List.range_succ, List.map_append]; rfl
theorem at0_ranI {n : Nat} {f : Int → Int} {i : Int} (h0 : 0 ≤ i) (h1 : i < (n : Int)) : at0 (ranI n f) i = f i := at0_rowOf h0 h1
theorem ranI_congr {n : Nat} {f g : Int → Int} (h : ∀ i : Int, 0 ≤ i → i < n → f i = g i) : ranI n f = ranI n g := by
  unfold ranI
  apply List.map_congr_left
  intro i hi
  have := List.mem_range.mp hi
  exact h _ (by omega) (by omega)
theorem el_mapRI {ta : TA} {j : Nat} {vs : List Nat} {n : Int} (f : Int → Int) (h : EvA ta σ H [.int n]) (hn : 0 ≤ n ∧ n ≤ 40000) (hw : ∀ x, wipe ((wipe σ vs).set j (some x)) vs = wipe σ vs)
    (he : ∀ (i : Nat), (i : Int) < n → Ev te ((wipe σ vs).set j (some (.int (i : Int)))) H (.int (f (i : Int)))) : EvL (tLc (iRng1 ta) (gName j) tYes te vs) σ H ((ranI n.toNat f).map V.int) := by
  have := el_mapR (fun i : Nat => V.int (f (i : Int))) h hn hw he
  unfold ranI
  rw [List.map_map]
  exact this
/-- an item of a list that is just made -/
theorem ev_ixNL {xs : List V} {i : Int} (ha : EvL ta σ H xs) (hb : ∀ H1, Ex H H1 → Ev tb σ H1 (.int i)) (hx : atI xs i = some v) : Ev (tOp (rIxL K) ta tb) σ H v := ev_opL1 ha hb fun p H1 hp _ => rv_ixL (sq_of hp) hx
theorem ev_neN {p : Addr} {ns ms : List Int} (ha : Ev ta σ H (.ref p)) (h : SqL K H p (ns.map V.int)) (hb : EvL tb σ H (ms.map V.int)) : Ev (tOp (rNeD K) ta tb) σ H (.bl (decide (ns ≠ ms))) :=
  ev_opL ha hb fun q H1 hq e => rv_neL (ex_l e h) (sq_of hq)
theorem ev_neU {ns ms : List Int} (ha : Ev ta σ H v) (h : RwV K ns v H) (hb : EvU tb σ H (ms.map V.int)) : Ev (tOp (rNeD K) ta tb) σ H (.bl (decide (ns ≠ ms))) :=
  ev_opV ha hb fun q H1 hq e => rv_neT (rw_imm _ _ _ _ (ExI.of e) h) ⟨q, rfl, st_of hq⟩
theorem ev_isiT {a : Addr} {xs : List V} (ha : Ev ta σ H (.ref a)) (h : SqT K H a xs) : Ev (tCB (rIsi K) (tCons ta (tCons (tC (.ty "tuple")) tNil))) σ H (.bl true) :=
  ev_cb (ea_cons ha (ea_cons ev_c ea_nil)) (rc_isi (.ty "tuple") (fun H1 e => tyx_t (ex_t e h)) (kit_ty (by decide +kernel)))
theorem ev_isiL {a : Addr} {xs : List V} (ha : Ev ta σ H (.ref a)) (h : SqL K H a xs) : Ev (tCB (rIsi K) (tCons ta (tCons (tC (.ty "list")) tNil))) σ H (.bl true) :=
  ev_cb (ea_cons ha (ea_cons ev_c ea_nil)) (rc_isi (.ty "list") (fun H1 e => tyx_l (ex_l e h)) (kit_ty (by decide +kernel)))
theorem ev_isiB {b : Bool} (ha : Ev ta σ H (.bl b)) : Ev (tCB (rIsi K) (tCons ta (tCons (tC (.ty "bool")) tNil))) σ H (.bl true) :=
  ev_cb (ea_cons ha (ea_cons ev_c ea_nil)) (rc_isi (.ty "bool") (fun H1 e => .base (.bl b)) (kit_ty (by decide +kernel)))
theorem ev_isiS {x : Str} (ha : Ev ta σ H (.str x)) : Ev (tCB (rIsi K) (tCons ta (tCons (tC (.ty "str")) tNil))) σ H (.bl true) :=
  ev_cb (ea_cons ha (ea_cons ev_c ea_nil)) (rc_isi (.ty "str") (fun H1 e => .base (.str x)) (kit_ty (by decide +kernel)))
/-- a statement ahead of the rest: what it reaches is M -/
theorem go_mid (M : L2.St → Hp → Prop) (h : Go tu { D with nx := M } σ H) (k : ∀ σ' H', M σ' H' → Go tz D σ' H') : Go (tCut tu tz) D σ H := go_cut M h k
end
/-- the law's promise -/
def sp_law (K : PySem.W.Frag) : Sp := fun vs H Q _ => ∃ (a : Addr) (ns : List Int), vs = [.ref a] ∧ SqL K H a (ns.map V.int) ∧ ns.length ≤ 63 ∧ ∀ H', Q (.bl true) H'
theorem sp_law_of {K : PySem.W.Frag} {H : Hp} {a : Addr} {ns : List Int} (hS : SqL K H a (ns.map V.int)) (hl : ns.length ≤ 63) : sp_law K [.ref a] H (fun v _ => v = .bl true) fun _ _ _ => False := ⟨a, ns, rfl, hS, hl, fun _ => rfl⟩
/-- colours -/
theorem col_of (z : Int) : 2 ≤ 2 + z % 2 ∧ 2 + z % 2 ≤ 3 := by
  have h1 := Int.emod_nonneg z (show (2 : Int) ≠ 0 by decide)
  have h2 := Int.emod_lt_of_pos z (show (0 : Int) < 2 by decide)
  omega
theorem col_four {c : Int} (h0 : 2 ≤ c) (h1 : c ≤ 3) : (c = 2 ∧ c * c * c * c = 16) ∨ (c = 3 ∧ c * c * c * c = 81) := by
  rcases (show c = 2 ∨ c = 3 by omega) with rfl | rfl
  · exact .inl ⟨rfl, rfl⟩
  · exact .inr ⟨rfl, rfl⟩
/-! ### a return by cases, a made list of a known kind, a swap, a pop into another list -/
section
variable {K : PySem.W.Frag} {σ : L2.St} {H H' : Hp} {ta tb tc td te tx : TE} {t u : TT} {x y z v : V} {P : V → Hp → Prop} {D : Ends} {tu tw tz : TS}
theorem go_retIf {b : Bool} (h : EvT t σ H b) (h1 : b = true → Go (tRet ta) D σ H) (h2 : b = false → Go (tRet tb) D σ H) : Go (tRet (tIf t ta tb)) D σ H := by
  intro H1 e
  refine h H1 e _ fun H2 e2 => ?_
  cases b with
  | true => exact h1 rfl H2 (e.trans e2)
  | false => exact h2 rfl H2 (e.trans e2)
/-- a call that hands back a new list of ints of which S holds -/
def SpR (sp : Sp) (vs : List V) (H : Hp) (S : List Int → Prop) : Prop := ∀ H1, Ex H H1 → ∀ Q : VK, (∀ r, S r → RetL (r.map V.int) H1 Q) → ∀ E : XK, sp vs H1 Q E
theorem go_asgR {S : List Int → Prop} {sp : Sp} {dvs vs : List V} {E : XK} {ta : TA} {i : Nat} (h : EvA ta σ H vs) (hs : SpR sp (vs ++ dvs) H S)
    (k : ∀ r p H1, S r → H p = none → Ex H H1 → H1 p = some (.lst (r.map V.int)) → Go tz D (σ.set i (some (.ref p))) H1) : Go (tSeq (tAsg (tCall sp dvs E ta) (gName i)) tz) D σ H :=
  fun H1 e => h H1 e _ fun H2 e2 => hs H2 (e.trans e2) _ (fun r hr p H3 hp e3 h3 => k r p H3 hr (fresh_back (e.trans e2) hp) ((e.trans e2).trans e3) h3 H3 (Ex.refl H3)) E
theorem gl_asgR {S : List Int → Prop} {sp : Sp} {dvs vs : List V} {E : XK} {ta : TA} {i : Nat} (h : EvA ta σ H vs) (hs : SpR sp (vs ++ dvs) H S)
    (k : ∀ r p H1, S r → H p = none → Ex H H1 → H1 p = some (.lst (r.map V.int)) → GoN D (σ.set i (some (.ref p))) H1) : Go (tAsg (tCall sp dvs E ta) (gName i)) D σ H :=
  fun H1 e => h H1 e _ fun H2 e2 => hs H2 (e.trans e2) _ (fun r hr p H3 hp e3 h3 => k r p H3 hr (fresh_back (e.trans e2) hp) ((e.trans e2).trans e3) h3 H3 (Ex.refl H3)) E
theorem ixN_int {n : Nat} {i : Int} (h0 : 0 ≤ i) (h1 : i < (n : Int)) : ixN n i = some i.toNat := by
  obtain ⟨j, rfl⟩ := Int.eq_ofNat_of_zero_le h0
  exact ixN_nat (by omega)
/-- out[a], out[b] = out[b], out[a] -/
theorem gl_swap {l : Addr} {ns : List Int} {a b : Int} {to1 to2 to3 to4 ta1 ta2 tb1 tb2 : TE} (hl : H l = some (.lst (ns.map V.int))) (h1 : Ev to1 σ H (.ref l)) (h2 : Ev to2 σ H (.ref l)) (h3 : ∀ H1, Ev to3 σ H1 (.ref l)) (h4 : ∀ H1, Ev to4 σ H1 (.ref l))
    (ha : Ev ta1 σ H (.int a)) (ha' : ∀ H1, Ev ta2 σ H1 (.int a)) (hb : Ev tb1 σ H (.int b)) (hb' : ∀ H1, Ev tb2 σ H1 (.int b)) (a0 : 0 ≤ a) (a1 : a < (ns.length : Int)) (b0 : 0 ≤ b) (b1 : b < (ns.length : Int))
    (k : ∀ H1, Ex H H1 → ∀ H2, (∀ c, c ≠ l → ∀ o, H1 c = some o → H2 c = some o) → H2 l = some (.lst (((ns.set a.toNat (at0 ns b)).set b.toNat (at0 ns a)).map V.int)) → GoN D σ H2) :
    Go (tAsg (tTup (tCons (tOp (rIxL K) to1 tb1) (tCons (tOp (rIxL K) to2 ta1) tNil))) (gTup K 2 (gCons (gSub to3 ta2 rSetL) (gCons (gSub to4 tb2 rSetL) gNil)))) D σ H := by
  have hu := eu_tup (ea_cons (ev_ixLI (K := K) h1 hb (sq_of hl) b0 b1) (ea_cons (ev_ixLI (K := K) h2 ha (sq_of hl) a0 a1) ea_nil)) (by show (2 : Nat) ≤ 100000; decide)
  refine fun H1 e => hu H1 e _ fun t H2 ht e2 h2t => ?_
  have hl2 : H2 l = some (.lst (ns.map V.int)) := e2 _ _ (e _ _ hl)
  refine ⟨t, [.int (at0 ns b), .int (at0 ns a)], rfl, st_of h2t, rfl, _, _, rfl, h3 H2 H2 (Ex.refl _) _ fun H3 e3 => ha' H3 H3 (Ex.refl _) _ fun H4 e4 => ?_⟩
  refine ⟨l, _, a, a.toNat, rfl, rfl, e4 _ _ (e3 _ _ hl2), ixN_int a0 (by rw [List.length_map]; exact a1), _, _, rfl, h4 _ _ (Ex.refl _) _ fun H5 e5 => hb' H5 H5 (Ex.refl _) _ fun H6 e6 => ?_⟩
  refine ⟨l, _, b, b.toNat, rfl, rfl, e6 _ _ (e5 _ _ upd_same), ixN_int b0 (by rw [List.length_set, List.length_map]; exact b1), rfl, ?_⟩
  refine k H4 (((e.trans e2).trans e3).trans e4) _ (fun c hc o ho => ?_) ?_ _ (Ex.refl _)
  · rw [upd_ne hc]
    exact e6 _ _ (e5 _ _ (by rw [upd_ne hc]; exact ho))
  · rw [upd_same, List.map_set, List.map_set]
/-- xs.append(ys.pop(i)) -/
theorem gl_appPop {l m : Addr} {xs ys : List V} {i : Int} (hl : H l = some (.lst xs)) (hm : H m = some (.lst ys)) (hne : l ≠ m) (ha : Ev ta σ H (.ref l)) (hb : Ev tb σ H (.ref m)) (hi : Ev te σ H (.int i)) (h0 : 0 ≤ i) (h1 : i < (ys.length : Int)) (hz : xs.length < 100000) (hy : ys.length < 100000)
    (k : ∀ H1 y, Ex H H1 → ys[i.toNat]? = some y → GoN D σ (upd (upd H1 m (.lst (ys.eraseIdx i.toNat))) l (.lst (xs ++ [y])))) : Go (tDrop (tBM K "list" rAppend ta (tCons (tBM K "list" rPopAt tb (tCons te tNil)) tNil))) D σ H := by
  refine fun H1 e => ha H1 e _ fun H2 e2 => ⟨.inl ⟨rfl, xs, sq_of (e2 l _ (e l _ hl))⟩, hb H2 (e.trans e2) _ fun H3 e3 => ⟨.inl ⟨rfl, ys, sq_of (e3 _ _ (e2 m _ (e m _ hm)))⟩, hi H3 ((e.trans e2).trans e3) _ fun H4 e4 => ?_⟩⟩
  have hlt : i.toNat < ys.length := by omega
  refine ⟨m, ys, i, i.toNat, ys[i.toNat], rfl, rfl, e4 _ _ (e3 _ _ (e2 m _ (e m _ hm))), by omega, by omega, (ixN_seq (ixN_int h0 h1)).1, List.getElem?_eq_getElem hlt, ?_⟩
  refine ⟨l, xs, ys[i.toNat], rfl, rfl, ?_, sz_lt hz, k H4 _ (((e.trans e2).trans e3).trans e4) (List.getElem?_eq_getElem hlt) _ (Ex.refl _)⟩
  rw [upd_ne hne]
  exact e4 _ _ (e3 _ _ (e2 l _ (e l _ hl)))
end
/-! ### the rules with the written part told (within comprehensions too) -/
section
variable {X : Cx} {K : PySem.W.Frag}
theorem ix_listK (h : X.K = K) : IxR X (rIxL K) := h ▸ ix_list
theorem ix_tupK (h : X.K = K) : IxR X (rIxT K) := h ▸ ix_tup
theorem call_lenK (h : X.K = K) : CallR X (.builtin "len") (rLenS K) := h ▸ call_lenS
theorem call_listK (h : X.K = K) : CallR X (.type "list") (rListS K) := h ▸ call_listS
theorem call_tupK (h : X.K = K) : CallR X (.type "tuple") (rTupS K) := h ▸ call_tupS
theorem cr_sumK (h : X.K = K) (hc : X.calm = true) : CallR X (.builtin "sum") (rSum K) := h ▸ cr_sum hc
theorem cr_sumTK (h : X.K = K) (hc : X.calm = true) : CallR X (.builtin "sum") (rSumT K) := h ▸ cr_sumT hc
theorem call_isiK1 (h : X.K = K) : CallR X (.builtin "isinstance") (rIsi K) := h ▸ call_isi
theorem op_eqDK (h : X.K = K) (hu : X.A.units + 64 < cLine) : OpR X (compareOp .Eq) (rEqD K) := h ▸ op_eqD hu
theorem op_neDK (h : X.K = K) (hu : X.A.units + 64 < cLine) : OpR X (compareOp .NotEq) (rNeD K) := h ▸ op_neD hu
theorem op_inK (h : X.K = K) : OpR X (compareOp .In) (rIn K false) := h ▸ op_in_seq
theorem op_notInK (h : X.K = K) : OpR X (compareOp .NotIn) (rIn K true) := h ▸ op_notIn_seq
theorem sl_listK (h : X.K = K) : SlR X (rSlL K) := h ▸ sl_list
theorem pi_listK {tg l : Expr} {tl : TE} (h : X.K = K) (hl : PE X l tl) : PI X tg l (iList K tl) := h ▸ pi_list hl
theorem pi_tupK {tg l : Expr} {tl : TE} (h : X.K = K) (hl : PE X l tl) : PI X tg l (iTup K tl) := h ▸ pi_tup hl
end
/-- a list of ints, read -/
def LsV (K : PySem.W.Frag) (ns : List Int) (v : V) (H : Hp) : Prop := ∃ p, v = .ref p ∧ SqL K H p (ns.map V.int)
theorem ls_mono {K : PySem.W.Frag} (ns : List Int) : Mono (LsV K ns) := fun v H H' e ⟨p, h, hs⟩ => ⟨p, h, ex_l e hs⟩
/-- the scope of a comprehension's block, for a comprehension within it -/
def relS (scope sc : Scope) : Scope := { scope with names := scope.names.map fun (n, k) => if (k == .free && sc.kind == .function && sc.names.lookup n == some .cell) then (n, .cell) else (n, k) }
/-! ### comprehensions over enumerate(list), over a tuple that a call hands back -/
section
variable {K : PySem.W.Frag} {σ : L2.St} {H H' : Hp} {ta tb te tx : TE} {t u : TT} {x y z v : V}
theorem pg_tupK {X : Cx} {pos : Pos} {es : List Expr} {k : Nat} {t : TGs} {n : Nat} (hK : X.K = K) (hc : X.calm = true) (h : PGs X es t) (hn : (assignEach es X.env).length = n := by rfl) (hst : (assignEach es X.env).findIdx? (·.1) = none := by rfl) : PG X (.Tuple es k pos) (gTup K n t) := hK ▸ pg_tup hc h hn hst
theorem pi_enumK {X : Cx} {e : Expr} {ta : TA} {p pos tpos : Pos} {elts : List Expr} {kk : Nat} (hK : X.K = K) (hg : Gl X "enumerate") (hm : X.mg "enumerate" = none) (ha : PA X [e] ta) (hs : starEach [e] X.env = [(false, eval e X.env)] := by rfl) : PI X (.Tuple elts kk tpos) (.Call (.Name "enumerate" p) [e] [] pos) (iEnum K ta) := hK ▸ pi_enum hg hm ha hs
theorem el_lcE {ta : TA} {p : Addr} {ns : List Int} {i j : Nat} {vs : List Nat} (v : Nat → V) (h : EvA ta σ H [.ref p]) (hx : SqL K H p (ns.map V.int)) (hz : ns.length ≤ 40000) (hw : ∀ x y, wipe (((wipe σ vs).set i (some x)).set j (some y)) vs = wipe σ vs)
    (he : ∀ (k : Nat) (x : Int), ns[k]? = some x → Ev te (((wipe σ vs).set i (some (.int (k : Int)))).set j (some (.int x))) H (v k)) : EvL (tLc (iEnum K ta) (gTup K 2 (gCons (gName i) (gCons (gName j) gNil))) tYes te vs) σ H ((List.range ns.length).map v) := by
  intro H0 e Q q
  refine h H0 e _ fun H1 e1 => ⟨p, ns.map V.int, rfl, ex_l (e.trans e1) hx, fun D hD => ?_⟩
  refine ⟨fun k m H' => k + m = ns.length ∧ H1 D = none ∧ Ex H1 H' ∧ H' D = some (.lst ((List.range k).map v)), ⟨ns.length, by omega, hD, Ex.new hD, upd_same⟩, fun k m H' ⟨hk, p1, p2, p3⟩ => ?_⟩
  have hs := ex_l ((e.trans e1).trans p2) hx
  by_cases hlt : k < ns.length
  · have hg : (ns.map V.int)[k]? = some (.int ns[k]) := by rw [List.getElem?_map, List.getElem?_eq_getElem hlt]; rfl
    refine .inr ⟨⟨_, _, hs, hg⟩, fun H'' => H1 D = none ∧ Ex H1 H'' ∧ H'' D = some (.lst ((List.range (k + 1)).map v)), fun H'' hn => ⟨m - 1, by omega, by omega, hn⟩, fun x H'' hy => ?_⟩
    obtain ⟨T, x2, rfl, nT, rfl, f2⟩ := hy
    have ex2 : x2 = .int ns[k] := Option.some.inj ((f2 _ hs).symm.trans hg)
    subst ex2
    have nTD : D ≠ T := ne_of_none p3 nT
    refine ⟨T, [.int (k : Int), .int ns[k]], rfl, st_of upd_same, rfl, _, _, rfl, _, _, rfl, rfl, hw _ _, ?_⟩
    show te _ _ _
    have eT : Ex H' (upd H' T (.tup [.int (k : Int), .int ns[k]])) := Ex.new nT
    refine he k ns[k] (List.getElem?_eq_getElem hlt) _ (((e.trans e1).trans p2).trans eT) _ fun H4 e4 => ⟨_, e4 _ _ (eT _ _ p3), sz_lt (by rw [List.length_map, List.length_range]; omega), p1, ((p2.trans eT).trans e4).mut p1, ?_⟩
    rw [upd_same, List.range_succ, List.map_append]
    rfl
  · have hkn : k = ns.length := by omega
    subst hkn
    exact .inl ⟨⟨_, hs, by rw [List.length_map]; exact Nat.le_refl _⟩, q D H' (fresh_back e1 p1) (e1.trans p2) p3⟩
theorem el_mapTP {ns : List Int} {tl : TE} {j : Nat} {vs : List Nat} (g : Int → V) (h : EvP tl σ H (RwV K ns)) (hz : ns.length ≤ 40000) (hw : ∀ x, wipe ((wipe σ vs).set j (some x)) vs = wipe σ vs)
    (he : ∀ (x : Int), x ∈ ns → Ev te ((wipe σ vs).set j (some (.int x))) H (g x)) : EvL (tLc (iTup K tl) (gName j) tYes te vs) σ H (ns.map g) := by
  intro H0 e Q q
  refine h H0 e _ fun v H1 e1 hv => ?_
  obtain ⟨a, rfl, hx⟩ := hv
  refine ⟨a, rfl, ⟨_, hx⟩, fun Dl hD => ?_⟩
  have q' : ∀ H', Cw H1 (fun _ => true) (fun i : Nat => g (at0 ns (i : Int))) Dl (ns.map V.int).length H' → Q (.ref Dl) H' := fun H' p => q Dl H' (fresh_back e1 p.1) (e1.trans p.2.1) (by rw [p.2.2, given_all, List.length_map, map_at0])
  exact lc_tup (xs := ns.map V.int) (Cw H1 (fun _ => true) (fun i : Nat => g (at0 ns (i : Int))) Dl) ⟨hD, Ex.new hD, upd_same⟩ (fun i H' _ p => ex_t p.2.1 hx) (fun i x H' hi p => by
    obtain ⟨rfl, hl⟩ := at0_of hi
    refine ⟨hw _, cw_turn p (by omega) et_yes (fun _ => (he _ ?_).mono (e.trans e1))⟩
    unfold at0
    rw [List.getD_eq_getElem?_getD, Int.toNat_natCast, List.getElem?_eq_getElem hl]
    exact List.getElem_mem hl) q'
end
/-! ### a tuple of made things; is None -/
section
variable {K : PySem.W.Frag} {σ : L2.St} {H H' : Hp} {ta tb te tx : TE} {t u : TT} {x y z v : V} {P : V → Hp → Prop}
theorem ep_tupP {ta : TA} {R : List V → Hp → Prop} (m : ∀ vs H H', Ex H H' → R vs H → R vs H') (h : EvAP ta σ H R) (hl : ∀ vs H1, R vs H1 → vs.length ≤ 100000) (hp : ∀ p vs H1, Ex H H1 → H1 p = some (.tup vs) → R vs H1 → P (.ref p) H1) : EvP (tTup ta) σ H P :=
  fun H1 e Q q => h H1 e _ fun vs H2 e2 hR => ⟨sz_of (hl vs H2 hR), fun p hn => q (.ref p) _ (e2.trans (Ex.new hn)) (hp p vs _ ((e.trans e2).trans (Ex.new hn)) upd_same (m vs _ _ (Ex.new hn) hR))⟩
theorem eap_nil : EvAP tNil σ H (fun vs _ => vs = []) := fun H1 e Q q => q [] H1 (Ex.refl H1) rfl
theorem rv_isN : RV rIsN x .non H (.bl (decide (x = .non))) := fun H1 e Q q => ⟨rfl, q H1 (Ex.refl H1)⟩
theorem rv_notN : RV rNotN x .non H (.bl (!decide (x = .non))) := fun H1 e Q q => ⟨rfl, q H1 (Ex.refl H1)⟩
end
end BT
namespace BT
open PySem PySem.Spec PyProof.Rows L2 Evl
/-! ### blocks and their numbers (plain) -/
def quo (n c : Int) : Nat → Int
  | 0 => n
  | i + 1 => quo n c i / c
def digs (n c : Int) : Nat → List Int
  | 0 => []
  | i + 1 => digs n c i ++ [quo n c i % c]
theorem digs_len (n c : Int) : ∀ i, (digs n c i).length = i
  | 0 => rfl
  | i + 1 => by rw [digs, List.length_append, digs_len n c i]; rfl
def blockM (n c : Int) : List Int := [n / c / c / c % c, n / c / c % c, n / c % c, n % c]
def numM (r : List Int) (c : Int) : Int := r.foldl (fun a d => a * c + d) 0
theorem numM_take {r : List Int} {c : Int} {i : Nat} {x : Int} (h : r[i]? = some x) : numM (r.take (i + 1)) c = numM (r.take i) c * c + x := by
  unfold numM
  rw [List.take_add_one, h]
  simp
end BT
namespace BT
open PySem PySem.Spec PyProof.Rows L2 Evl
/-! ### rules: each number just once (plain) -/
def rng (n : Nat) : List Int := ranI n fun i => i
def IsRule (n : Nat) (r : List Int) : Prop := r.Perm (rng n)
theorem len_rng (n : Nat) : (rng n).length = n := len_ranI n _
theorem IsRule.len {n : Nat} {r : List Int} (h : IsRule n r) : r.length = n := by rw [h.length_eq, len_rng]
theorem mem_rng {n : Nat} {x : Int} : x ∈ rng n ↔ 0 ≤ x ∧ x < n := by
  unfold rng ranI
  rw [List.mem_map]
  constructor
  · rintro ⟨i, hi, rfl⟩
    have := List.mem_range.mp hi
    show (0 : Int) ≤ i ∧ (i : Int) < n
    omega
  · rintro ⟨h0, h1⟩
    exact ⟨x.toNat, List.mem_range.mpr (by omega), by show ((x.toNat : Nat) : Int) = x; omega⟩
theorem IsRule.mem {n : Nat} {r : List Int} (h : IsRule n r) {x : Int} : x ∈ r ↔ 0 ≤ x ∧ x < n := by rw [h.mem_iff, mem_rng]
theorem nodup_rng (n : Nat) : (rng n).Nodup := by
  unfold rng ranI
  refine List.Pairwise.map _ (fun (a b : Nat) hab => ?_) List.nodup_range
  show (a : Int) ≠ (b : Int)
  omega
theorem IsRule.nodup {n : Nat} {r : List Int} (h : IsRule n r) : r.Nodup := h.nodup_iff.mpr (nodup_rng n)
theorem at0_nat {r : List Int} {i : Nat} (h : i < r.length) : at0 r (i : Int) = r[i] := by
  unfold at0
  rw [List.getD_eq_getElem?_getD, Int.toNat_natCast, List.getElem?_eq_getElem h]
  rfl
theorem at0_int {r : List Int} {i : Int} (h0 : 0 ≤ i) (h1 : i < (r.length : Int)) : at0 r i = r[i.toNat]'(by omega) := by
  obtain ⟨j, rfl⟩ := Int.eq_ofNat_of_zero_le h0
  exact at0_nat (by omega)
theorem at0_mem {r : List Int} {i : Int} (h0 : 0 ≤ i) (h1 : i < (r.length : Int)) : at0 r i ∈ r := by
  rw [at0_int h0 h1]
  exact List.getElem_mem _
theorem IsRule.at {n : Nat} {r : List Int} (h : IsRule n r) {i : Int} (h0 : 0 ≤ i) (h1 : i < n) : 0 ≤ at0 r i ∧ at0 r i < n :=
  h.mem.mp (at0_mem h0 (by rw [h.len]; exact h1))
theorem IsRule.inj {n : Nat} {r : List Int} (h : IsRule n r) {i j : Int} (h0 : 0 ≤ i) (h1 : i < n) (h2 : 0 ≤ j) (h3 : j < n) (e : at0 r i = at0 r j) : i = j := by
  have hl := h.len
  rw [at0_int h0 (by omega), at0_int h2 (by omega)] at e
  have := (List.getElem_inj h.nodup).mp e
  omega
theorem perm_erase : ∀ (l : List Int) (i : Nat) (h : i < l.length), (l[i] :: l.eraseIdx i).Perm l
  | [], i, h => absurd h (by simp)
  | a :: r, 0, _ => .refl _
  | a :: r, i + 1, h => by
    show (r[i]'(by simpa using h) :: a :: r.eraseIdx i).Perm (a :: r)
    exact (List.Perm.swap a _ _).trans ((perm_erase r i (by simpa using h)).cons a)
theorem perm_swap2 (l : List Int) (i j : Nat) (hi : i < l.length) (hj : j < l.length) : ((l.set i l[j]).set j l[i]).Perm l := by
  rw [List.perm_iff_count]
  intro a
  rw [List.count_set (by rw [List.length_set]; exact hj), List.count_set hi]
  have e : (l.set i l[j])[j]'(by rw [List.length_set]; exact hj) = l[j] := by
    rw [List.getElem_set]
    split
    · rfl
    · rfl
  rw [e]
  have ci : l[i] = a → 0 < l.count a := fun h => List.count_pos_iff.mpr (h ▸ List.getElem_mem hi)
  have cj : l[j] = a → 0 < l.count a := fun h => List.count_pos_iff.mpr (h ▸ List.getElem_mem hj)
  by_cases h1 : l[i] = a <;> by_cases h2 : l[j] = a <;> simp only [h1, h2, beq_iff_eq, if_true, if_false, beq_self_eq_true] <;> simp
  · have := ci h1; omega
  · have := ci h1; omega
theorem isRule_swap {n : Nat} {r : List Int} (h : IsRule n r) {a b : Int} (h0 : 0 ≤ a) (h1 : a < (r.length : Int)) (h2 : 0 ≤ b) (h3 : b < (r.length : Int)) : IsRule n ((r.set a.toNat (at0 r b)).set b.toNat (at0 r a)) := by
  rw [at0_int h0 h1, at0_int h2 h3]
  exact (perm_swap2 r a.toNat b.toNat (by omega) (by omega)).trans h
/-- the place of a number, the rule back -/
def backL (r : List Int) : List Int := ranI r.length fun x => (r.idxOf x : Nat)
theorem len_backL (r : List Int) : (backL r).length = r.length := len_ranI _ _
theorem idx_at {n : Nat} {r : List Int} (h : IsRule n r) {x : Int} (h0 : 0 ≤ x) (h1 : x < n) : r.idxOf x < r.length ∧ at0 r (r.idxOf x : Nat) = x := by
  have hm : x ∈ r := h.mem.mpr ⟨h0, h1⟩
  have hl := List.idxOf_lt_length_of_mem hm
  refine ⟨hl, ?_⟩
  rw [at0_nat hl]
  exact List.getElem_idxOf hl
theorem at_idx {n : Nat} {r : List Int} (h : IsRule n r) {i : Int} (h0 : 0 ≤ i) (h1 : i < n) : ((r.idxOf (at0 r i) : Nat) : Int) = i := by
  obtain ⟨ha, hb⟩ := h.at h0 h1
  obtain ⟨hl, he⟩ := idx_at h ha hb
  have := h.len
  exact h.inj (by omega) (by omega) h0 h1 he
theorem at0_backL {n : Nat} {r : List Int} (h : IsRule n r) {x : Int} (h0 : 0 ≤ x) (h1 : x < n) : at0 (backL r) x = (r.idxOf x : Nat) := by
  unfold backL
  exact at0_ranI h0 (by rw [h.len]; exact h1)
theorem back_at {n : Nat} {r : List Int} (h : IsRule n r) {i : Int} (h0 : 0 ≤ i) (h1 : i < n) : at0 (backL r) (at0 r i) = i := by
  obtain ⟨ha, hb⟩ := h.at h0 h1
  rw [at0_backL h ha hb, at_idx h h0 h1]
theorem at_back {n : Nat} {r : List Int} (h : IsRule n r) {x : Int} (h0 : 0 ≤ x) (h1 : x < n) : at0 r (at0 (backL r) x) = x := by
  rw [at0_backL h h0 h1]
  exact (idx_at h h0 h1).2
theorem nodup_of_inj {n : Nat} {r : List Int} (hl : r.length = n) (h : ∀ i j : Int, 0 ≤ i → i < n → 0 ≤ j → j < n → at0 r i = at0 r j → i = j) : r.Nodup := by
  rw [List.nodup_iff_pairwise_ne] at *
  rw [List.pairwise_iff_getElem]
  intro i j hi hj hij e
  have := h i j (by omega) (by omega) (by omega) (by omega) (by rw [at0_nat hi, at0_nat hj]; exact e)
  omega
theorem sub_count : ∀ {l m : List Int}, l.Nodup → (∀ x ∈ l, x ∈ m) → m.length ≤ l.length → l.Perm m
  | [], m, _, _, hl => by
    have : m = [] := List.eq_nil_of_length_eq_zero (by simpa using hl)
    rw [this]
  | a :: l, m, hn, hs, hl => by
    have ham : a ∈ m := hs a (List.mem_cons_self ..)
    obtain ⟨hna, hnl⟩ := List.nodup_cons.mp hn
    have h1 := List.perm_cons_erase ham
    have h2 : (m.erase a).length = m.length - 1 := List.length_erase_of_mem ham
    have hpos : 0 < m.length := List.length_pos_of_mem ham
    have hl' : m.length ≤ l.length + 1 := by simpa using hl
    have ih : l.Perm (m.erase a) := sub_count hnl (fun x hx => by
      have hxm := hs x (List.mem_cons_of_mem _ hx)
      have hne : x ≠ a := fun e => hna (e ▸ hx)
      exact (List.mem_erase_of_ne hne).mpr hxm) (by omega)
    exact (ih.cons a).trans h1.symm
/-- a rule, by its places -/
theorem isRule_of {n : Nat} {r : List Int} (hl : r.length = n) (hr : ∀ i : Int, 0 ≤ i → i < n → 0 ≤ at0 r i ∧ at0 r i < n) (hi : ∀ i j : Int, 0 ≤ i → i < n → 0 ≤ j → j < n → at0 r i = at0 r j → i = j) : IsRule n r := by
  refine sub_count (nodup_of_inj hl hi) (fun x hx => ?_) (by rw [len_rng, hl]; exact Nat.le_refl n)
  obtain ⟨k, hk, rfl⟩ := List.mem_iff_getElem.mp hx
  have := hr k (by omega) (by omega)
  rw [at0_nat hk] at this
  exact mem_rng.mpr this
theorem isRule_back {n : Nat} {r : List Int} (h : IsRule n r) : IsRule n (backL r) := by
  refine isRule_of (by rw [len_backL, h.len]) (fun i h0 h1 => ?_) (fun i j h0 h1 h2 h3 e => ?_)
  · rw [at0_backL h h0 h1]
    have := (idx_at h h0 h1).1
    rw [h.len] at this
    omega
  · have e2 := congrArg (at0 r) e
    rwa [at_back h h0 h1, at_back h h2 h3] at e2
theorem ext_at0 {r s : List Int} (hl : r.length = s.length) (h : ∀ i : Int, 0 ≤ i → i < r.length → at0 r i = at0 s i) : r = s := by
  apply List.ext_getElem hl
  intro i h1 h2
  have := h i (by omega) (by omega)
  rwa [at0_nat h1, at0_nat h2] at this
theorem back_back {n : Nat} {r : List Int} (h : IsRule n r) : backL (backL r) = r := by
  have hb := isRule_back h
  refine ext_at0 (by rw [len_backL, len_backL]) fun i h0 h1 => ?_
  rw [len_backL, len_backL, h.len] at h1
  have a1 := (isRule_back hb).at h0 h1
  have a2 := h.at h0 h1
  refine hb.inj a1.1 a1.2 a2.1 a2.2 ?_
  rw [at_back hb h0 h1, back_at h h0 h1]
theorem at0_set {r : List Int} {i j v : Int} (h0 : 0 ≤ i) (h1 : i < (r.length : Int)) (h2 : 0 ≤ j) : at0 (r.set i.toNat v) j = if j = i then v else at0 r j := by
  obtain ⟨a, rfl⟩ := Int.eq_ofNat_of_zero_le h0
  obtain ⟨b, rfl⟩ := Int.eq_ofNat_of_zero_le h2
  unfold at0
  rw [Int.toNat_natCast, Int.toNat_natCast, List.getD_eq_getElem?_getD, List.getElem?_set, List.getD_eq_getElem?_getD]
  by_cases e : a = b
  · subst e
    rw [if_pos rfl, if_pos (by omega), if_pos rfl]
    rfl
  · rw [if_neg e, if_neg (by omega)]
theorem ranI_set {n : Nat} {f : Int → Int} {i v : Int} (h0 : 0 ≤ i) (h1 : i < n) : (ranI n f).set i.toNat v = ranI n fun x => if x = i then v else f x := by
  refine ext_at0 (by rw [List.length_set, len_ranI, len_ranI]) fun j j0 j1 => ?_
  rw [List.length_set, len_ranI] at j1
  rw [at0_set h0 (by rw [len_ranI]; exact h1) j0, at0_ranI j0 j1, at0_ranI j0 j1]
theorem map_erase : ∀ (r : List Int) (i : Nat), (r.map V.int).eraseIdx i = (r.eraseIdx i).map V.int
  | [], _ => rfl
  | _ :: _, 0 => rfl
  | a :: r, i + 1 => by
    show V.int a :: (r.map V.int).eraseIdx i = V.int a :: (r.eraseIdx i).map V.int
    rw [map_erase r i]
def n4 (c : Int) : Nat := (c * c * c * c).toNat
theorem n4_int {c : Int} (h0 : 2 ≤ c) (h1 : c ≤ 3) : ((n4 c : Nat) : Int) = c * c * c * c ∧ n4 c ≤ 81 ∧ 16 ≤ n4 c := by
  unfold n4
  rcases col_four h0 h1 with ⟨rfl, e⟩ | ⟨rfl, e⟩ <;> rw [e] <;> decide
def wtB (W : List Int) (b : List Int) : Int := (b.map (at0 W)).sum
def wtM (n c : Int) (W : List Int) : Int := wtB W (blockM n c)
theorem blockM_mem {n c x : Int} (c0 : 2 ≤ c) (h : x ∈ blockM n c) : 0 ≤ x ∧ x < c := by
  unfold blockM at h
  simp only [List.mem_cons, List.not_mem_nil, or_false] at h
  rcases h with rfl | rfl | rfl | rfl <;> exact ⟨Int.emod_nonneg _ (by omega), Int.emod_lt_of_pos _ (by omega)⟩
def keepB (r : List Int) (c : Int) (W : List Int) : Prop := ∀ i : Int, 0 ≤ i → i < r.length → wtM i c W = wtM (at0 r i) c W
instance (r : List Int) (c : Int) (W : List Int) : Decidable (keepB r c W) := decidable_of_iff (∀ i : Fin r.length, wtM (i.val : Int) c W = wtM (at0 r (i.val : Int)) c W) ⟨fun h i h0 h1 => by
  obtain ⟨j, rfl⟩ := Int.eq_ofNat_of_zero_le h0
  exact h ⟨j, by omega⟩, fun h i => h i.val (Int.natCast_nonneg _) (by have := i.isLt; omega)⟩
end BT
namespace BT
open PySem PySem.Spec PyProof.Rows L2 Evl
/-! ### a board's step (plain) -/
theorem pred_mod {y h : Int} (h0 : 0 ≤ y) (h1 : y < h) : (y - 1) % h = if y = 0 then h - 1 else y - 1 := by
  by_cases e : y = 0
  · subst e
    rw [if_pos rfl, ← Int.add_emod_right, Int.emod_eq_of_lt (by omega) (by omega)]
    omega
  · rw [if_neg e, Int.emod_eq_of_lt (by omega) (by omega)]
theorem succ_mod {y h : Int} (h0 : 0 ≤ y) (h1 : y < h) : (y + 1) % h = if y = h - 1 then 0 else y + 1 := by
  by_cases e : y = h - 1
  · rw [if_pos e, e, show h - 1 + 1 = h by omega, Int.emod_self]
  · rw [if_neg e, Int.emod_eq_of_lt (by omega) (by omega)]
def topM (m y h : Int) : Int := if (y - m) % 2 = 0 then y else (y - 1) % h
theorem top_rng {m y h : Int} (h0 : 0 ≤ y) (h1 : y < h) : 0 ≤ topM m y h ∧ topM m y h < h := by
  unfold topM
  rw [pred_mod h0 h1]
  split
  · exact ⟨h0, h1⟩
  · split <;> omega
theorem top_par {m y : Int} {hh : Nat} (h0 : 0 ≤ y) (h1 : y < 2 * (hh : Int)) : (topM m y (2 * (hh : Int)) - m) % 2 = 0 := by
  unfold topM
  rw [pred_mod h0 h1]
  split
  · assumption
  · split <;> omega
/-- the cells of the block whose upper row is Y -/
theorem top_iff {m y Y : Int} {hh : Nat} (h0 : 0 ≤ y) (h1 : y < 2 * (hh : Int)) (H0 : 0 ≤ Y) (H1 : Y < 2 * (hh : Int)) (hp : (Y - m) % 2 = 0) : topM m y (2 * (hh : Int)) = Y ↔ y = Y ∨ y = (Y + 1) % (2 * (hh : Int)) := by
  unfold topM
  rw [pred_mod h0 h1, succ_mod H0 H1]
  split <;> split <;> (try split) <;> omega
def stepF (h w c : Int) (r : List Int) (m : Int) (f : Int → Int → Int) (y x : Int) : Int :=
  at0 (blockM (at0 r (numM [f (topM m y h) (topM m x w), f (topM m y h) ((topM m x w + 1) % w), f ((topM m y h + 1) % h) (topM m x w), f ((topM m y h + 1) % h) ((topM m x w + 1) % w)] c)) c)
    ((if y = topM m y h then 0 else 2) + if x = topM m x w then 0 else 1)
/-- bounds -/
def Bnd (h w : Nat) (c : Int) (f : Int → Int → Int) : Prop := ∀ y x : Int, 0 ≤ y → y < h → 0 ≤ x → x < w → 0 ≤ f y x ∧ f y x < c
theorem numM4 (a b d e c : Int) : numM [a, b, d, e] c = (((0 * c + a) * c + b) * c + d) * c + e := rfl
theorem num_rng {a b d e c : Int} (c0 : 2 ≤ c) (c1 : c ≤ 3) (ha : 0 ≤ a ∧ a < c) (hb : 0 ≤ b ∧ b < c) (hd : 0 ≤ d ∧ d < c) (he : 0 ≤ e ∧ e < c) : 0 ≤ numM [a, b, d, e] c ∧ numM [a, b, d, e] c < c * c * c * c := by
  rw [numM4]
  rcases col_four c0 c1 with ⟨rfl, e2⟩ | ⟨rfl, e2⟩ <;> rw [e2] <;> omega
theorem block_rng (n : Int) {c : Int} (c0 : 2 ≤ c) (i : Int) : 0 ≤ at0 (blockM n c) i ∧ at0 (blockM n c) i < c := by
  have key : ∀ z : Int, 0 ≤ z % c ∧ z % c < c := fun z => ⟨Int.emod_nonneg _ (by omega), Int.emod_lt_of_pos _ (by omega)⟩
  unfold at0 blockM
  match i.toNat with
  | 0 => exact key _
  | 1 => exact key _
  | 2 => exact key _
  | 3 => exact key _
  | _ + 4 => exact ⟨Int.le_refl _, by show (0 : Int) < c; omega⟩
theorem bnd_step {h w : Nat} {c m : Int} {r : List Int} {f : Int → Int → Int} (c0 : 2 ≤ c) : Bnd h w c (stepF h w c r m f) := fun y x _ _ _ _ => block_rng _ c0 _
/-- the cells stepped so far: blocks ahead of (Y, X) -/
def curF (h w c : Int) (r : List Int) (m : Int) (f : Int → Int → Int) (Y X : Int) (y x : Int) : Int :=
  if topM m y h < Y ∨ (topM m y h = Y ∧ topM m x w < X) then stepF h w c r m f y x else f y x
def updF (f : Int → Int → Int) (y x v : Int) (a b : Int) : Int := if a = y ∧ b = x then v else f a b
/-- one block written -/
theorem cur_next {hh ww : Nat} {c m : Int} {r : List Int} {f : Int → Int → Int} {Y X y x : Int} (hY0 : 0 ≤ Y) (hY1 : Y < 2 * (hh : Int)) (hX0 : 0 ≤ X) (hX1 : X < 2 * (ww : Int)) (pY : (Y - m) % 2 = 0) (pX : (X - m) % 2 = 0)
    (y0 : 0 ≤ y) (y1 : y < 2 * (hh : Int)) (x0 : 0 ≤ x) (x1 : x < 2 * (ww : Int)) :
    let made := blockM (at0 r (numM [f Y X, f Y ((X + 1) % (2 * (ww : Int))), f ((Y + 1) % (2 * (hh : Int))) X, f ((Y + 1) % (2 * (hh : Int))) ((X + 1) % (2 * (ww : Int)))] c)) c
    updF (updF (updF (updF (curF (2 * (hh : Int)) (2 * (ww : Int)) c r m f Y X) Y X (at0 made 0)) Y ((X + 1) % (2 * (ww : Int))) (at0 made 1)) ((Y + 1) % (2 * (hh : Int))) X (at0 made 2)) ((Y + 1) % (2 * (hh : Int))) ((X + 1) % (2 * (ww : Int))) (at0 made 3) y x
      = curF (2 * (hh : Int)) (2 * (ww : Int)) c r m f Y (X + 2) y x := by
  intro made
  have ty := top_iff y0 y1 hY0 hY1 pY
  have tx := top_iff x0 x1 hX0 hX1 pX
  have px := top_par (m := m) x0 x1
  have ny : (Y + 1) % (2 * (hh : Int)) ≠ Y := by rw [succ_mod hY0 hY1]; split <;> omega
  have nx : (X + 1) % (2 * (ww : Int)) ≠ X := by rw [succ_mod hX0 hX1]; split <;> omega
  by_cases hy : topM m y (2 * (hh : Int)) = Y
  · by_cases hx : topM m x (2 * (ww : Int)) = X
    · have e1 : curF (2 * (hh : Int)) (2 * (ww : Int)) c r m f Y (X + 2) y x = stepF (2 * (hh : Int)) (2 * (ww : Int)) c r m f y x := if_pos (.inr ⟨hy, by omega⟩)
      rw [e1]
      unfold stepF
      rw [hy, hx]
      show _ = at0 made _
      unfold updF
      rcases ty.mp hy with ey | ey <;> rcases tx.mp hx with ex | ex <;> subst ey <;> subst ex
      · rw [if_neg (fun z => ny z.1.symm), if_neg (fun z => ny z.1.symm), if_neg (fun z => nx z.2.symm), if_pos ⟨rfl, rfl⟩, if_pos rfl, if_pos rfl]
        rfl
      · rw [if_neg (fun z => ny z.1.symm), if_neg (fun z => ny z.1.symm), if_pos ⟨rfl, rfl⟩, if_pos rfl, if_neg nx]
        rfl
      · rw [if_neg (fun z => nx z.2.symm), if_pos ⟨rfl, rfl⟩, if_neg ny, if_pos rfl]
        rfl
      · rw [if_pos ⟨rfl, rfl⟩, if_neg ny, if_neg nx]
        rfl
    · have hx1 : ¬ (x = X) := fun z => hx (tx.mpr (.inl z))
      have hx2 : ¬ (x = (X + 1) % (2 * (ww : Int))) := fun z => hx (tx.mpr (.inr z))
      unfold updF
      rw [if_neg (fun z => hx2 z.2), if_neg (fun z => hx1 z.2), if_neg (fun z => hx2 z.2), if_neg (fun z => hx1 z.2)]
      unfold curF
      have : (topM m x (2 * (ww : Int)) < X) ↔ (topM m x (2 * (ww : Int)) < X + 2) := by omega
      simp only [this]
  · have hy1 : ¬ (y = Y) := fun z => hy (ty.mpr (.inl z))
    have hy2 : ¬ (y = (Y + 1) % (2 * (hh : Int))) := fun z => hy (ty.mpr (.inr z))
    unfold updF
    rw [if_neg (fun z => hy2 z.1), if_neg (fun z => hy2 z.1), if_neg (fun z => hy1 z.1), if_neg (fun z => hy1 z.1)]
    unfold curF
    simp only [hy, false_and, or_false]
theorem cur_row {hh ww : Nat} {c m : Int} {r : List Int} {f : Int → Int → Int} {Y X y x : Int} (hX : 2 * (ww : Int) ≤ X) (pY : (Y - m) % 2 = 0) (y0 : 0 ≤ y) (y1 : y < 2 * (hh : Int)) (x0 : 0 ≤ x) (x1 : x < 2 * (ww : Int)) (p : Int) (hp : p ≤ 0 ∨ (p = 1 ∧ (1 - m) % 2 = 0)) :
    curF (2 * (hh : Int)) (2 * (ww : Int)) c r m f Y X y x = curF (2 * (hh : Int)) (2 * (ww : Int)) c r m f (Y + 2) p y x := by
  have py := top_par (m := m) y0 y1
  have px := top_par (m := m) x0 x1
  have hx := (top_rng (m := m) x0 x1).2
  have hx0 := (top_rng (m := m) x0 x1).1
  unfold curF
  have : (topM m y (2 * (hh : Int)) < Y ∨ (topM m y (2 * (hh : Int)) = Y ∧ topM m x (2 * (ww : Int)) < X)) ↔ (topM m y (2 * (hh : Int)) < Y + 2 ∨ (topM m y (2 * (hh : Int)) = Y + 2 ∧ topM m x (2 * (ww : Int)) < p)) := by omega
  simp only [this]
theorem cur_first {hh ww : Nat} {c m : Int} {r : List Int} {f : Int → Int → Int} {y x : Int} (y0 : 0 ≤ y) (y1 : y < 2 * (hh : Int)) (x0 : 0 ≤ x) (x1 : x < 2 * (ww : Int)) : curF (2 * (hh : Int)) (2 * (ww : Int)) c r m f (m % 2) (m % 2) y x = f y x := by
  have py := top_par (m := m) y0 y1
  have px := top_par (m := m) x0 x1
  have hy0 := (top_rng (m := m) y0 y1).1
  have hx0 := (top_rng (m := m) x0 x1).1
  unfold curF
  rw [if_neg (by omega)]
theorem cur_last {hh ww : Nat} {c m : Int} {r : List Int} {f : Int → Int → Int} {Y X y x : Int} (hY : 2 * (hh : Int) ≤ Y) (y0 : 0 ≤ y) (y1 : y < 2 * (hh : Int)) : curF (2 * (hh : Int)) (2 * (ww : Int)) c r m f Y X y x = stepF (2 * (hh : Int)) (2 * (ww : Int)) c r m f y x := by
  have hy := (top_rng (m := m) y0 y1).2
  unfold curF
  rw [if_pos (.inl (by omega))]

/-! ### ranges by twos -/
theorem rgc2 {p : Int} {hh : Nat} (h0 : 0 ≤ p) (h1 : p ≤ 1) (hp : 1 ≤ hh) (hq : hh ≤ 1000) : RgC p (2 * (hh : Int)) 2 hh := by
  have e : Builtin.Range.rangeSize p (2 * (hh : Int)) 2 = hh := by
    unfold Builtin.Range.rangeSize
    rw [if_pos (by decide), if_pos (by omega)]
    omega
  refine ⟨by decide, by decide, ?_, e⟩
  have fit : ∀ i : Int, -1000000 ≤ i → i ≤ 1000000 → Builtin.Range.rangeFitsLong i = true := fun i a b => Bool.and_eq_true_iff.mpr ⟨decide_eq_true (by omega), decide_eq_true (by omega)⟩
  unfold Builtin.Range.small
  rw [e, fit p (by omega) (by omega), fit (2 * (hh : Int)) (by omega) (by omega), fit 2 (by omega) (by omega), fit (hh : Int) (by omega) (by omega), if_pos (show (2 : Int) > 0 by decide), fit (2 * (hh : Int) + (2 - 1)) (by omega) (by omega)]
  simp
section
variable {K : PySem.W.Frag} {σ : L2.St} {H H' : Hp} {ta tb tc td te tx ty to : TE} {t u : TT} {x y z v : V} {P : V → Hp → Prop} {D : Ends} {tu tw tz : TS}
theorem go_forR3 {ta : TA} {j n : Nat} {lo hi c : Int} (h : EvA ta σ H [.int lo, .int hi, .int c]) (hn : RgC lo hi c n) (Pv : Nat → L2.St → Hp → Prop) (h0 : ∀ H1, Ex H H1 → Pv 0 σ H1)
    (hs : ∀ (i : Nat) σ' H', i < n → Pv i σ' H' → Go tu { D with nx := Pv (i + 1), ct := Pv (i + 1), bk := tz D } (σ'.set j (some (.int (lo + (i : Int) * c)))) H') (hd : ∀ σ' H', Pv n σ' H' → Go tz D σ' H') : Go (tSeq (tFor (iRng3 ta) (gName j) tu) tz) D σ H :=
  fun H1 e => h H1 e _ fun H2 e2 => ⟨lo, hi, c, n, rfl, hn, for_rangeC (D := { D with nx := tz D }) Pv (h0 H2 (e.trans e2)) (fun i σ' H' hi p => (hs i σ' H' hi p).at) (fun σ' H' p => (hd σ' H' p).at)⟩
theorem gl_forR3 {ta : TA} {j n : Nat} {lo hi c : Int} (h : EvA ta σ H [.int lo, .int hi, .int c]) (hn : RgC lo hi c n) (Pv : Nat → L2.St → Hp → Prop) (h0 : ∀ H1, Ex H H1 → Pv 0 σ H1)
    (hs : ∀ (i : Nat) σ' H', i < n → Pv i σ' H' → Go tu { D with nx := Pv (i + 1), ct := Pv (i + 1), bk := D.nx } (σ'.set j (some (.int (lo + (i : Int) * c)))) H') (hd : ∀ σ' H', Pv n σ' H' → GoN D σ' H') : Go (tFor (iRng3 ta) (gName j) tu) D σ H :=
  fun H1 e => h H1 e _ fun H2 e2 => ⟨lo, hi, c, n, rfl, hn, for_rangeC Pv (h0 H2 (e.trans e2)) (fun i σ' H' hi p => (hs i σ' H' hi p).at) (fun σ' H' p => hd σ' H' p H' (Ex.refl H'))⟩

/-! ### a list of lists -/
def Grid (H : Hp) (g : Addr) (as : List Addr) (h w : Nat) (cur : Int → Int → Int) : Prop :=
  H g = some (.lst (as.map V.ref)) ∧ as.length = h ∧ as.Nodup ∧ g ∉ as ∧ ∀ (i : Nat) (a : Addr), as[i]? = some a → H a = some (.lst ((rowOf w (cur (i : Int))).map V.int))
theorem Grid.up {g : Addr} {as : List Addr} {h w : Nat} {cur : Int → Int → Int} (e : Ex H H') (G : Grid H g as h w cur) : Grid H' g as h w cur :=
  ⟨e _ _ G.1, G.2.1, G.2.2.1, G.2.2.2.1, fun i a ha => e _ _ (G.2.2.2.2 i a ha)⟩
theorem rowOf_congr {w : Nat} {f g : Int → Int} (h : ∀ x : Int, 0 ≤ x → x < w → f x = g x) : rowOf w f = rowOf w g := by
  unfold rowOf
  apply List.map_congr_left
  intro i hi
  have := List.mem_range.mp hi
  exact h _ (by omega) (by omega)
theorem Grid.congr {g : Addr} {as : List Addr} {h w : Nat} {c1 c2 : Int → Int → Int} (e : ∀ y x : Int, 0 ≤ y → y < h → 0 ≤ x → x < w → c1 y x = c2 y x) (G : Grid H g as h w c1) : Grid H g as h w c2 :=
  ⟨G.1, G.2.1, G.2.2.1, G.2.2.2.1, fun i a ha => by
    rw [G.2.2.2.2 i a ha, rowOf_congr fun x x0 x1 => e i x (by omega) (by have := (List.getElem?_eq_some_iff.mp ha).1; rw [G.2.1] at this; omega) x0 x1]⟩
theorem rowOf_set {w : Nat} {f : Int → Int} {x v : Int} (h0 : 0 ≤ x) (h1 : x < w) : (rowOf w f).set x.toNat v = rowOf w fun b => if b = x then v else f b := by
  apply List.ext_getElem
  · rw [List.length_set, len_rowOf, len_rowOf]
  · intro i h2 h3
    have e1 : (rowOf w fun b => if b = x then v else f b)[i] = if (i : Int) = x then v else f i := by simp only [rowOf, List.getElem_map, List.getElem_range]
    have e2 : (rowOf w f)[i]'(by rw [List.length_set] at h2; exact h2) = f i := by unfold rowOf; simp
    rw [List.getElem_set, e1, e2]
    by_cases e : x.toNat = i
    · rw [if_pos e, if_pos (by omega)]
    · rw [if_neg e, if_neg (by omega)]
theorem Grid.set {g : Addr} {as : List Addr} {h w : Nat} {cur : Int → Int → Int} {y x v : Int} {a : Addr} (G : Grid H g as h w cur) (ha : as[y.toNat]? = some a) (y0 : 0 ≤ y) (y1 : y < h) (x0 : 0 ≤ x) (x1 : x < w) :
    Grid (upd H a (.lst (((rowOf w (cur y)).map V.int).set x.toNat (.int v)))) g as h w (updF cur y x v) := by
  obtain ⟨g1, g2, g3, g4, g5⟩ := G
  have hma : a ∈ as := List.mem_iff_getElem?.mpr ⟨_, ha⟩
  refine ⟨by rw [upd_ne (show g ≠ a from fun z => g4 (z ▸ hma))]; exact g1, g2, g3, g4, fun i b hb => ?_⟩
  by_cases e : b = a
  · subst e
    have hi : i = y.toNat := nd_ix g3 hb ha
    rw [upd_same, ← List.map_set, rowOf_set x0 x1]
    refine congrArg (fun l => some (HO.lst (List.map V.int l))) (rowOf_congr fun b b0 b1 => ?_)
    unfold updF
    have : (i : Int) = y := by omega
    rw [this]
    simp only [true_and]
  · rw [upd_ne e, g5 i b hb]
    have hne : (i : Int) ≠ y := fun z => e (by
      have : i = y.toNat := by omega
      rw [this, ha] at hb
      exact (Option.some.inj hb).symm)
    refine congrArg (fun l => some (HO.lst (List.map V.int l))) (rowOf_congr fun b b0 b1 => ?_)
    unfold updF
    rw [if_neg (fun z => hne z.1)]
/-- rows[y][x] = v -/
theorem gl_grid {g : Addr} {as : List Addr} {h w : Nat} {cur : Int → Int → Int} {y x v : Int} (G : Grid H g as h w cur) (hv : Ev te σ H (.int v)) (hg : Ev to σ H (.ref g)) (hy : Ev ty σ H (.int y)) (hx : Ev tx σ H (.int x)) (y0 : 0 ≤ y) (y1 : y < h) (x0 : 0 ≤ x) (x1 : x < w)
    (k : ∀ H1 H2, Ex H H1 → (∀ b o, b ∉ as → H1 b = some o → H2 b = some o) → ExI H H2 → Grid H2 g as h w (updF cur y x v) → GoN D σ H2) : Go (tAsg te (gSub (tOp (rIxL K) to ty) tx rSetL)) D σ H := by
  have hlt : y.toNat < as.length := by rw [G.2.1]; omega
  have ha : as[y.toNat]? = some as[y.toNat] := List.getElem?_eq_getElem hlt
  have hl := G.2.2.2.2 _ _ ha
  rw [show ((y.toNat : Nat) : Int) = y by omega] at hl
  have hat : atI (as.map V.ref) y = some (.ref as[y.toNat]) := by
    obtain ⟨j, rfl⟩ := Int.eq_ofNat_of_zero_le y0
    refine atI_nat ?_
    rw [List.getElem?_map]
    have ha2 : as[j]? = some as[((j : Int)).toNat] := ha
    rw [ha2]
    rfl
  refine gl_setL hl hv (ev_ixL hg hy (sq_of G.1) hat) hx x0 (by rw [List.length_map, len_rowOf]; exact x1) fun H1 e1 => ?_
  refine k H1 _ e1 (fun b o hb ho => ?_) (ExI.upd' (ExI.of e1) (e1 _ _ hl)) ((G.up e1).set ha y0 y1 x0 x1)
  rw [upd_ne (show b ≠ as[y.toNat] from fun z => hb (z ▸ List.getElem_mem hlt))]
  exact ho
theorem go_grid {g : Addr} {as : List Addr} {h w : Nat} {cur : Int → Int → Int} {y x v : Int} (G : Grid H g as h w cur) (hv : Ev te σ H (.int v)) (hg : Ev to σ H (.ref g)) (hy : Ev ty σ H (.int y)) (hx : Ev tx σ H (.int x)) (y0 : 0 ≤ y) (y1 : y < h) (x0 : 0 ≤ x) (x1 : x < w)
    (k : ∀ H1 H2, Ex H H1 → (∀ b o, b ∉ as → H1 b = some o → H2 b = some o) → ExI H H2 → Grid H2 g as h w (updF cur y x v) → Go tz D σ H2) : Go (tSeq (tAsg te (gSub (tOp (rIxL K) to ty) tx rSetL)) tz) D σ H := gl_grid (D := { D with nx := tz D }) G hv hg hy hx y0 y1 x0 x1 k
theorem ev_lenG {g : Addr} {as : List Addr} {h w : Nat} {cur : Int → Int → Int} (G : Grid H g as h w cur) (hg : Ev to σ H (.ref g)) : Ev (tCB (rLenS K) (tCons to tNil)) σ H (.int (h : Int)) := by
  have := ev_lenL (K := K) hg (sq_of G.1)
  rwa [List.length_map, G.2.1] at this
theorem ev_wideG {g : Addr} {as : List Addr} {h w : Nat} {cur : Int → Int → Int} (G : Grid H g as h w cur) (h0 : 0 < h) (hg : Ev to σ H (.ref g)) (hy : Ev ty σ H (.int 0)) : Ev (tCB (rLenS K) (tCons (tOp (rIxL K) to ty) tNil)) σ H (.int (w : Int)) := by
  have hlt : 0 < as.length := by rw [G.2.1]; exact h0
  have ha : as[0]? = some as[0] := List.getElem?_eq_getElem hlt
  have hat : atI (as.map V.ref) ((0 : Nat) : Int) = some (.ref as[0]) := atI_nat (by rw [List.getElem?_map, ha]; rfl)
  have := ev_lenL (K := K) (ev_ixL (K := K) hg hy (sq_of G.1) hat) (sq_of (G.2.2.2.2 _ _ ha))
  rwa [List.length_map, len_rowOf] at this
/-- [list(row) for row in board] -/
theorem elg_T {v : V} {f : Int → Int → Int} {h w : Nat} {tl : TE} {j : Nat} {vs : List Nat} (hb : BdV K (mk h w f) v H) (hh : h ≤ 1000) (hl : Ev tl σ H v) (hw : ∀ x, wipe ((wipe σ vs).set j (some x)) vs = wipe σ vs)
    (he : ∀ x, ((wipe σ vs).set j (some x))[j]? = some (some x)) :
    ∀ H1, Ex H H1 → ∀ Q : VK, (∀ g as H2, H1 g = none → Ex H1 H2 → (∀ a ∈ as, H1 a = none) → Grid H2 g as h w f → Q (.ref g) H2) → tLc (iTup K tl) (gName j) tYes (tCB (rListS K) (tCons (tVar j) tNil)) vs σ H1 Q := by
  intro H1 e Q q
  obtain ⟨p, xs, rfl, hs, hlen, hr⟩ := hb
  rw [len_mk] at hlen
  refine hl H1 e _ fun H2 e2 => ⟨p, rfl, ⟨xs, ex_t (e.trans e2) hs⟩, fun Dl hD => ?_⟩
  refine lc_tup (xs := xs) (fun i H' => H2 Dl = none ∧ Ex H2 H' ∧ ∃ as : List Addr, as.length = i ∧ H' Dl = some (.lst (as.map V.ref)) ∧ as.Nodup ∧ Dl ∉ as ∧ (∀ a ∈ as, H2 a = none) ∧ ∀ (k : Nat) (a : Addr), as[k]? = some a → H' a = some (.lst ((rowOf w (f (k : Int))).map V.int)))
    ⟨hD, Ex.new hD, [], rfl, upd_same, List.nodup_nil, by simp, by simp, fun k a hk => by cases hk⟩ (fun i H' _ p => ex_t ((e.trans e2).trans p.2.1) hs) (fun i x H' hi ⟨p1, p2, as, p3, p4, p5, p6, p7, p8⟩ => ⟨hw x, ?_⟩) (fun H' ⟨p1, p2, as, p3, p4, p5, p6, p7, p8⟩ => ?_)
  · have hil : i < h := by rw [← hlen]; exact (List.getElem?_eq_some_iff.mp hi).1
    obtain ⟨b, rfl, hb⟩ := hr i x _ hi (mk_get hil)
    refine ⟨.ref b, he _, b, _, rfl, .inr (ex_t ((e.trans e2).trans p2) hb), fun l hl => ?_⟩
    have nl : l ≠ Dl := fun z => by rw [z, p4] at hl; cases hl
    have nla : l ∉ as := fun z => by
      obtain ⟨k, hk⟩ := List.mem_iff_getElem?.mp z
      rw [p8 k l hk] at hl
      cases hl
    have hl2 : H2 l = none := fresh_back p2 hl
    refine ⟨as.map V.ref, by rw [upd_ne nl.symm]; exact p4, sz_lt (by rw [List.length_map]; omega), p1, Ex.mut (p2.trans (Ex.new hl)) p1, as ++ [l], by rw [List.length_append, p3]; rfl, ?_, ?_, ?_, ?_, ?_⟩
    · rw [upd_same, List.map_append]
      rfl
    · rw [List.nodup_append]
      refine ⟨p5, by simp, fun a ha b hb => ?_⟩
      have : b = l := by simpa using hb
      rw [this]
      exact fun z => nla (z ▸ ha)
    · simp only [List.mem_append, List.mem_singleton, not_or]
      exact ⟨p6, nl.symm⟩
    · intro a ha
      rcases List.mem_append.mp ha with ha | ha
      · exact p7 a ha
      · rw [List.mem_singleton.mp ha]
        exact hl2
    · intro k a hk
      rcases Nat.lt_or_ge k as.length with hlt | hge
      · rw [List.getElem?_append_left hlt] at hk
        have hma : a ∈ as := List.mem_iff_getElem?.mpr ⟨k, hk⟩
        rw [upd_ne (show a ≠ Dl from fun z => p6 (z ▸ hma)), upd_ne (show a ≠ l from fun z => nla (z ▸ hma))]
        exact p8 k a hk
      · rw [List.getElem?_append_right hge] at hk
        have hk0 : k = i := by
          have := (List.getElem?_eq_some_iff.mp hk).1
          simp only [List.length_singleton] at this
          omega
        subst hk0
        rw [p3, Nat.sub_self] at hk
        have : a = l := (Option.some.inj hk).symm
        subst this
        rw [upd_ne nl, upd_same]
  · exact q Dl as H' (fresh_back e2 p1) (e2.trans p2) (fun a ha => fresh_back e2 (p7 a ha)) ⟨p4, by rw [p3, hlen], p5, p6, p8⟩
/-- tuple([tuple(row) for row in rows]) of lists -/
theorem ep_gridT {g : Addr} {as : List Addr} {h w : Nat} {cur : Int → Int → Int} {tl : TE} {j : Nat} {vs : List Nat} (G : Grid H g as h w cur) (hh : h ≤ 1000) (hl : Ev tl σ H (.ref g)) (hw : ∀ x, wipe ((wipe σ vs).set j (some x)) vs = wipe σ vs)
    (he : ∀ x, ((wipe σ vs).set j (some x))[j]? = some (some x)) : EvP (tCB (rTupS K) (tCons (tLc (iList K tl) (gName j) tYes (tCB (rTupS K) (tCons (tVar j) tNil)) vs) tNil)) σ H (BdV K (mk h w cur)) := by
  obtain ⟨g1, g2, g3, g4, g5⟩ := G
  refine ep_weak (ep_tupLP (n := (as.map V.ref).length) (P := fun i => RwV K (rowOf w (cur (i : Int)))) (fun i => rw_imm _ |>.mono) (elp_L (fun i => rw_imm _) hl (sq_of g1) (by rw [List.length_map]; omega) hw fun i x hi => ?_)) fun v H1 _ hp => ?_
  · rw [List.getElem?_map] at hi
    obtain ⟨a, ha, rfl⟩ := Option.map_eq_some_iff.mp hi
    exact ep_U (eu_tupV (ev_var (he _)) (sq_of (g5 i a ha))) fun p H1 _ hp => ⟨p, rfl, st_of hp⟩
  · rw [List.length_map, g2] at hp
    exact bd_of hp
/-- tuple([tuple(row) for row in board]) of tuples -/
theorem ep_boardT {v : V} {f : Int → Int → Int} {h w : Nat} {tl : TE} {j : Nat} {vs : List Nat} (hb : BdV K (mk h w f) v H) (hh : h ≤ 1000) (hl : Ev tl σ H v) (hw : ∀ x, wipe ((wipe σ vs).set j (some x)) vs = wipe σ vs)
    (he : ∀ x, ((wipe σ vs).set j (some x))[j]? = some (some x)) : EvP (tCB (rTupS K) (tCons (tLc (iTup K tl) (gName j) tYes (tCB (rTupS K) (tCons (tVar j) tNil)) vs) tNil)) σ H (BdV K (mk h w f)) := by
  obtain ⟨p, xs, rfl, hs, hlen, hr⟩ := hb
  rw [len_mk] at hlen
  refine ep_weak (ep_tupLP (n := xs.length) (P := fun i => RwV K (rowOf w (f (i : Int)))) (fun i => rw_imm _ |>.mono) (elp_T (fun i => rw_imm _) hl hs (by omega) hw fun i x hi => ?_)) fun v H1 _ hp => ?_
  · obtain ⟨a, rfl, ha⟩ := hr i x _ hi (mk_get (by rw [← hlen]; exact (List.getElem?_eq_some_iff.mp hi).1))
    exact ep_of (eu_tupT (ev_var (he _)) ha) fun H1 e1 => ⟨a, rfl, ex_t e1 ha⟩
  · rw [hlen] at hp
    exact bd_of hp
theorem ex_keep {H0 H1 H2 : Hp} {as : List Addr} (hf : ∀ a ∈ as, H0 a = none) (e : Ex H0 H1) (k : ∀ b o, b ∉ as → H1 b = some o → H2 b = some o) : Ex H0 H2 := fun x u hx => k x u (fun z => by rw [hf x z] at hx; cases hx) (e x u hx)
theorem go_asgG {v : V} {f : Int → Int → Int} {h w : Nat} {tl : TE} {i j : Nat} {vs : List Nat} (hb : BdV K (mk h w f) v H) (hh : h ≤ 1000) (hl : Ev tl σ H v) (hw : ∀ x, wipe ((wipe σ vs).set j (some x)) vs = wipe σ vs) (he : ∀ x, ((wipe σ vs).set j (some x))[j]? = some (some x))
    (k : ∀ g as H1, H g = none → Ex H H1 → (∀ a ∈ as, H a = none) → Grid H1 g as h w f → Go tz D (σ.set i (some (.ref g))) H1) : Go (tSeq (tAsg (tLc (iTup K tl) (gName j) tYes (tCB (rListS K) (tCons (tVar j) tNil)) vs) (gName i)) tz) D σ H :=
  fun H1 e => elg_T hb hh hl hw he H1 e (fun x H2 => tz D (σ.set i (some x)) H2) fun g as H2 hg e2 hf G => k g as H2 (fresh_back e hg) (e.trans e2) (fun a ha => fresh_back e (hf a ha)) G H2 (Ex.refl H2)
end
/-- a board and a rule as they are handed in -/
structure BArg (K : PySem.W.Frag) (H : Hp) (v : V) (a : Addr) (hh ww : Nat) (c : Int) (r : List Int) (f : Int → Int → Int) : Prop where
  h1 : 1 ≤ hh
  h2 : hh ≤ 8
  w1 : 1 ≤ ww
  w2 : ww ≤ 8
  c0 : 2 ≤ c
  c1 : c ≤ 3
  hB : BdV K (mk (2 * hh) (2 * ww) f) v H
  bd : Bnd (2 * hh) (2 * ww) c f
  hR : SqL K H a (r.map V.int)
  hr : IsRule (n4 c) r
theorem BArg.up {K : PySem.W.Frag} {H H' : Hp} {v : V} {a : Addr} {hh ww : Nat} {c : Int} {r : List Int} {f : Int → Int → Int} (e : Ex H H') (A : BArg K H v a hh ww c r f) : BArg K H' v a hh ww c r f :=
  ⟨A.h1, A.h2, A.w1, A.w2, A.c0, A.c1, A.hB.up e, A.bd, ex_l e A.hR, A.hr⟩
/-- the board behind so many steps -/
def runF (h w c : Int) (r : List Int) (m : Int) : Nat → (Int → Int → Int) → Int → Int → Int
  | 0, f => f
  | n + 1, f => stepF h w c r (m + n) (runF h w c r m n f)
def backF (h w c : Int) (r : List Int) (m : Int) : Nat → (Int → Int → Int) → Int → Int → Int
  | 0, f => f
  | n + 1, f => stepF h w c (backL r) (m - 1 - n) (backF h w c r m n f)
theorem bnd_run {hh ww : Nat} {c m : Int} {r : List Int} {f : Int → Int → Int} (c0 : 2 ≤ c) (h : Bnd (2 * hh) (2 * ww) c f) : ∀ n, Bnd (2 * hh) (2 * ww) c (runF (2 * (hh : Int)) (2 * (ww : Int)) c r m n f)
  | 0 => h
  | n + 1 => fun y x _ _ _ _ => block_rng _ c0 _
theorem bnd_back {hh ww : Nat} {c m : Int} {r : List Int} {f : Int → Int → Int} (c0 : 2 ≤ c) (h : Bnd (2 * hh) (2 * ww) c f) : ∀ n, Bnd (2 * hh) (2 * ww) c (backF (2 * (hh : Int)) (2 * (ww : Int)) c r m n f)
  | 0 => h
  | n + 1 => fun y x _ _ _ _ => block_rng _ c0 _
/-- rows so far -/
def RwsV (K : PySem.W.Frag) (B : List (List Int)) (vs : List V) (H : Hp) : Prop := vs.length = B.length ∧ ∀ (i : Nat) (u : V) (r : List Int), vs[i]? = some u → B[i]? = some r → RwV K r u H
theorem RwsV.imm {K : PySem.W.Frag} {B : List (List Int)} {vs : List V} {H H' : Hp} (e : ExI H H') (h : RwsV K B vs H) : RwsV K B vs H' := ⟨h.1, fun i u r h1 h2 => rw_imm r u H H' e (h.2 i u r h1 h2)⟩
theorem RwsV.snoc {K : PySem.W.Frag} {B : List (List Int)} {vs : List V} {H : Hp} {r : List Int} {u : V} (h : RwsV K B vs H) (hr : RwV K r u H) : RwsV K (B ++ [r]) (vs ++ [u]) H := by
  refine ⟨by rw [List.length_append, List.length_append, h.1]; rfl, fun i u' r' h1 h2 => ?_⟩
  rcases Nat.lt_or_ge i vs.length with hi | hi
  · rw [List.getElem?_append_left hi] at h1
    rw [List.getElem?_append_left (by rw [← h.1]; exact hi)] at h2
    exact h.2 i u' r' h1 h2
  · rw [List.getElem?_append_right hi] at h1
    rw [List.getElem?_append_right (by rw [← h.1]; exact hi)] at h2
    rw [← h.1] at h2
    have h0 : i - vs.length = 0 := by
      have := (List.getElem?_eq_some_iff.mp h1).1
      simp only [List.length_singleton] at this
      omega
    rw [h0] at h1 h2
    rw [← Option.some.inj h1, ← Option.some.inj h2]
    exact hr
theorem int_bool (k : Bool) : -18446744073709551616 < (if k then (1 : Int) else 0) ∧ (if k then (1 : Int) else 0) < 18446744073709551616 := by cases k <;> decide
end BT
namespace BT
open PySem PySem.Spec PyProof.Rows L2 Evl
/-! ### steps undone (plain) -/
def EqOn (hh ww : Nat) (f g : Int → Int → Int) : Prop := ∀ y x : Int, 0 ≤ y → y < 2 * (hh : Int) → 0 ≤ x → x < 2 * (ww : Int) → f y x = g y x
theorem EqOn.refl {hh ww : Nat} (f : Int → Int → Int) : EqOn hh ww f f := fun _ _ _ _ _ _ => rfl
theorem EqOn.symm {hh ww : Nat} {f g : Int → Int → Int} (h : EqOn hh ww f g) : EqOn hh ww g f := fun y x a b c d => (h y x a b c d).symm
theorem EqOn.trans {hh ww : Nat} {f g k : Int → Int → Int} (h : EqOn hh ww f g) (h2 : EqOn hh ww g k) : EqOn hh ww f k := fun y x a b c d => (h y x a b c d).trans (h2 y x a b c d)
theorem mk_eq {hh ww : Nat} {f g : Int → Int → Int} (h : EqOn hh ww f g) : mk (2 * hh) (2 * ww) f = mk (2 * hh) (2 * ww) g := mk_congr fun y x a b c d => h y x a (by omega) c (by omega)
theorem mk_eq_iff {hh ww : Nat} {f g : Int → Int → Int} : mk (2 * hh) (2 * ww) f = mk (2 * hh) (2 * ww) g ↔ EqOn hh ww f g := ⟨fun e y x a b c d => mk_inj e a (by omega) c (by omega), mk_eq⟩
theorem low_rng {Y : Int} {hh : Nat} (h0 : 0 ≤ Y) (h1 : Y < 2 * (hh : Int)) : 0 ≤ (Y + 1) % (2 * (hh : Int)) ∧ (Y + 1) % (2 * (hh : Int)) < 2 * (hh : Int) ∧ (Y + 1) % (2 * (hh : Int)) ≠ Y := by
  rw [succ_mod h0 h1]
  split <;> omega
theorem step_congr {hh ww : Nat} {c m : Int} {r : List Int} {f g : Int → Int → Int} (e : EqOn hh ww f g) : EqOn hh ww (stepF (2 * (hh : Int)) (2 * (ww : Int)) c r m f) (stepF (2 * (hh : Int)) (2 * (ww : Int)) c r m g) := by
  intro y x y0 y1 x0 x1
  obtain ⟨t0, t1⟩ := top_rng (m := m) y0 y1
  obtain ⟨l0, l1⟩ := top_rng (m := m) x0 x1
  obtain ⟨a0, a1, _⟩ := low_rng t0 t1
  obtain ⟨b0, b1, _⟩ := low_rng l0 l1
  unfold stepF
  rw [e _ _ t0 t1 l0 l1, e _ _ t0 t1 b0 b1, e _ _ a0 a1 l0 l1, e _ _ a0 a1 b0 b1]
theorem bnd_eq {hh ww : Nat} {c : Int} {f g : Int → Int → Int} (e : EqOn hh ww f g) (h : Bnd (2 * hh) (2 * ww) c f) : Bnd (2 * hh) (2 * ww) c g := fun y x a b p q => by
  rw [← e y x a (by omega) p (by omega)]
  exact h y x a b p q
/-- a block's number, by its upper left cell -/
def numF (h w c : Int) (f : Int → Int → Int) (Y X : Int) : Int := numM [f Y X, f Y ((X + 1) % w), f ((Y + 1) % h) X, f ((Y + 1) % h) ((X + 1) % w)] c
theorem step_at {hh ww : Nat} {c m : Int} {r : List Int} {f : Int → Int → Int} {Y X y x : Int} (hY0 : 0 ≤ Y) (hY1 : Y < 2 * (hh : Int)) (hX0 : 0 ≤ X) (hX1 : X < 2 * (ww : Int)) (pY : (Y - m) % 2 = 0) (pX : (X - m) % 2 = 0)
    (hy : y = Y ∨ y = (Y + 1) % (2 * (hh : Int))) (hx : x = X ∨ x = (X + 1) % (2 * (ww : Int))) :
    stepF (2 * (hh : Int)) (2 * (ww : Int)) c r m f y x = at0 (blockM (at0 r (numF (2 * (hh : Int)) (2 * (ww : Int)) c f Y X)) c) ((if y = Y then 0 else 2) + if x = X then 0 else 1) := by
  obtain ⟨a0, a1, _⟩ := low_rng hY0 hY1
  obtain ⟨b0, b1, _⟩ := low_rng hX0 hX1
  have y0 : 0 ≤ y ∧ y < 2 * (hh : Int) := by rcases hy with rfl | rfl <;> omega
  have x0 : 0 ≤ x ∧ x < 2 * (ww : Int) := by rcases hx with rfl | rfl <;> omega
  have ty := (top_iff y0.1 y0.2 hY0 hY1 pY).mpr hy
  have tx := (top_iff x0.1 x0.2 hX0 hX1 pX).mpr hx
  unfold stepF numF
  rw [ty, tx]
theorem num_block {n c : Int} (h0 : 2 ≤ c) (h1 : c ≤ 3) (hn : 0 ≤ n) (hm : n < c * c * c * c) : numM (blockM n c) c = n := by
  have e : numM (blockM n c) c = (((0 * c + n / c / c / c % c) * c + n / c / c % c) * c + n / c % c) * c + n % c := rfl
  rw [e]
  rcases col_four h0 h1 with ⟨rfl, e2⟩ | ⟨rfl, e2⟩
  · rw [e2] at hm; omega
  · rw [e2] at hm; omega
theorem block_num {a b d e c : Int} (c0 : 2 ≤ c) (c1 : c ≤ 3) (ha : 0 ≤ a ∧ a < c) (hb : 0 ≤ b ∧ b < c) (hd : 0 ≤ d ∧ d < c) (he : 0 ≤ e ∧ e < c) : blockM (numM [a, b, d, e] c) c = [a, b, d, e] := by
  rw [numM4]
  unfold blockM
  rcases (show c = 2 ∨ c = 3 by omega) with rfl | rfl
  · rw [show ((((0 * 2 + a) * 2 + b) * 2 + d) * 2 + e) / 2 / 2 / 2 % 2 = a by omega, show ((((0 * 2 + a) * 2 + b) * 2 + d) * 2 + e) / 2 / 2 % 2 = b by omega, show ((((0 * 2 + a) * 2 + b) * 2 + d) * 2 + e) / 2 % 2 = d by omega, show ((((0 * 2 + a) * 2 + b) * 2 + d) * 2 + e) % 2 = e by omega]
  · rw [show ((((0 * 3 + a) * 3 + b) * 3 + d) * 3 + e) / 3 / 3 / 3 % 3 = a by omega, show ((((0 * 3 + a) * 3 + b) * 3 + d) * 3 + e) / 3 / 3 % 3 = b by omega, show ((((0 * 3 + a) * 3 + b) * 3 + d) * 3 + e) / 3 % 3 = d by omega, show ((((0 * 3 + a) * 3 + b) * 3 + d) * 3 + e) % 3 = e by omega]
theorem numF_rng {hh ww : Nat} {c : Int} {f : Int → Int → Int} {Y X : Int} (c0 : 2 ≤ c) (c1 : c ≤ 3) (hb : Bnd (2 * hh) (2 * ww) c f) (hY0 : 0 ≤ Y) (hY1 : Y < 2 * (hh : Int)) (hX0 : 0 ≤ X) (hX1 : X < 2 * (ww : Int)) :
    0 ≤ numF (2 * (hh : Int)) (2 * (ww : Int)) c f Y X ∧ numF (2 * (hh : Int)) (2 * (ww : Int)) c f Y X < (n4 c : Int) := by
  obtain ⟨a0, a1, _⟩ := low_rng hY0 hY1
  obtain ⟨b0, b1, _⟩ := low_rng hX0 hX1
  rw [(n4_int c0 c1).1]
  exact num_rng c0 c1 (hb _ _ hY0 (by omega) hX0 (by omega)) (hb _ _ hY0 (by omega) b0 (by omega)) (hb _ _ a0 (by omega) hX0 (by omega)) (hb _ _ a0 (by omega) b0 (by omega))
theorem numF_block {hh ww : Nat} {c : Int} {f : Int → Int → Int} {Y X : Int} (c0 : 2 ≤ c) (c1 : c ≤ 3) (hb : Bnd (2 * hh) (2 * ww) c f) (hY0 : 0 ≤ Y) (hY1 : Y < 2 * (hh : Int)) (hX0 : 0 ≤ X) (hX1 : X < 2 * (ww : Int)) :
    blockM (numF (2 * (hh : Int)) (2 * (ww : Int)) c f Y X) c = [f Y X, f Y ((X + 1) % (2 * (ww : Int))), f ((Y + 1) % (2 * (hh : Int))) X, f ((Y + 1) % (2 * (hh : Int))) ((X + 1) % (2 * (ww : Int)))] := by
  obtain ⟨a0, a1, _⟩ := low_rng hY0 hY1
  obtain ⟨b0, b1, _⟩ := low_rng hX0 hX1
  exact block_num c0 c1 (hb _ _ hY0 (by omega) hX0 (by omega)) (hb _ _ hY0 (by omega) b0 (by omega)) (hb _ _ a0 (by omega) hX0 (by omega)) (hb _ _ a0 (by omega) b0 (by omega))
/-- the number of a block behind a step -/
theorem numF_step {hh ww : Nat} {c m : Int} {r : List Int} {f : Int → Int → Int} {Y X : Int} (c0 : 2 ≤ c) (c1 : c ≤ 3) (hr : IsRule (n4 c) r) (hb : Bnd (2 * hh) (2 * ww) c f) (hY0 : 0 ≤ Y) (hY1 : Y < 2 * (hh : Int)) (hX0 : 0 ≤ X) (hX1 : X < 2 * (ww : Int)) (pY : (Y - m) % 2 = 0) (pX : (X - m) % 2 = 0) :
    numF (2 * (hh : Int)) (2 * (ww : Int)) c (stepF (2 * (hh : Int)) (2 * (ww : Int)) c r m f) Y X = at0 r (numF (2 * (hh : Int)) (2 * (ww : Int)) c f Y X) := by
  obtain ⟨_, _, a2⟩ := low_rng hY0 hY1
  obtain ⟨_, _, b2⟩ := low_rng hX0 hX1
  obtain ⟨n0, n1⟩ := numF_rng c0 c1 hb hY0 hY1 hX0 hX1
  obtain ⟨r0, r1⟩ := hr.at n0 n1
  rw [(n4_int c0 c1).1] at r1
  have s := fun y x hy hx => step_at (c := c) (r := r) (f := f) (y := y) (x := x) hY0 hY1 hX0 hX1 pY pX hy hx
  have e := num_block c0 c1 r0 r1
  generalize numF (2 * (hh : Int)) (2 * (ww : Int)) c f Y X = n at *
  show numM [_, _, _, _] c = _
  rw [s Y X (.inl rfl) (.inl rfl), s Y _ (.inl rfl) (.inr rfl), s _ X (.inr rfl) (.inl rfl), s _ _ (.inr rfl) (.inr rfl), if_pos rfl, if_pos rfl, if_neg a2, if_neg b2]
  exact e
/-- the cell (y, x) in its block -/
theorem cell_at {hh ww : Nat} {m : Int} {f : Int → Int → Int} {y x : Int} (y0 : 0 ≤ y) (y1 : y < 2 * (hh : Int)) (x0 : 0 ≤ x) (x1 : x < 2 * (ww : Int)) :
    at0 [f (topM m y (2 * (hh : Int))) (topM m x (2 * (ww : Int))), f (topM m y (2 * (hh : Int))) ((topM m x (2 * (ww : Int)) + 1) % (2 * (ww : Int))), f ((topM m y (2 * (hh : Int)) + 1) % (2 * (hh : Int))) (topM m x (2 * (ww : Int))), f ((topM m y (2 * (hh : Int)) + 1) % (2 * (hh : Int))) ((topM m x (2 * (ww : Int)) + 1) % (2 * (ww : Int)))]
      ((if y = topM m y (2 * (hh : Int)) then 0 else 2) + if x = topM m x (2 * (ww : Int)) then 0 else 1) = f y x := by
  obtain ⟨t0, t1⟩ := top_rng (m := m) y0 y1
  obtain ⟨l0, l1⟩ := top_rng (m := m) x0 x1
  have hy := (top_iff y0 y1 t0 t1 (top_par y0 y1)).mp rfl
  have hx := (top_iff x0 x1 l0 l1 (top_par x0 x1)).mp rfl
  generalize topM m y (2 * (hh : Int)) = t at *
  generalize topM m x (2 * (ww : Int)) = l at *
  obtain ⟨_, _, a2⟩ := low_rng t0 t1
  obtain ⟨_, _, b2⟩ := low_rng l0 l1
  rcases hy with ey | ey <;> rcases hx with ex | ex
  · rw [if_pos ey, if_pos ex, ey, ex]; rfl
  · rw [if_pos ey, if_neg (by omega), ey, ex]; rfl
  · rw [if_neg (by omega), if_pos ex, ey, ex]; rfl
  · rw [if_neg (by omega), if_neg (by omega), ey, ex]; rfl
theorem step_back {hh ww : Nat} {c m : Int} {r : List Int} {f : Int → Int → Int} (c0 : 2 ≤ c) (c1 : c ≤ 3) (hr : IsRule (n4 c) r) (hb : Bnd (2 * hh) (2 * ww) c f) :
    EqOn hh ww (stepF (2 * (hh : Int)) (2 * (ww : Int)) c (backL r) m (stepF (2 * (hh : Int)) (2 * (ww : Int)) c r m f)) f := by
  intro y x y0 y1 x0 x1
  obtain ⟨t0, t1⟩ := top_rng (m := m) y0 y1
  obtain ⟨l0, l1⟩ := top_rng (m := m) x0 x1
  have py := top_par (m := m) y0 y1
  have px := top_par (m := m) x0 x1
  have hy := (top_iff y0 y1 t0 t1 py).mp rfl
  have hx := (top_iff x0 x1 l0 l1 px).mp rfl
  rw [step_at t0 t1 l0 l1 py px hy hx, numF_step c0 c1 hr hb t0 t1 l0 l1 py px]
  obtain ⟨n0, n1⟩ := numF_rng c0 c1 hb t0 t1 l0 l1
  rw [back_at hr n0 n1, numF_block c0 c1 hb t0 t1 l0 l1]
  exact cell_at y0 y1 x0 x1
theorem back_step {hh ww : Nat} {c m : Int} {r : List Int} {f : Int → Int → Int} (c0 : 2 ≤ c) (c1 : c ≤ 3) (hr : IsRule (n4 c) r) (hb : Bnd (2 * hh) (2 * ww) c f) :
    EqOn hh ww (stepF (2 * (hh : Int)) (2 * (ww : Int)) c r m (stepF (2 * (hh : Int)) (2 * (ww : Int)) c (backL r) m f)) f := by
  have := step_back (m := m) c0 c1 (isRule_back hr) hb
  rwa [back_back hr] at this
theorem run_congr {hh ww : Nat} {c m : Int} {r : List Int} {f g : Int → Int → Int} (e : EqOn hh ww f g) : ∀ n, EqOn hh ww (runF (2 * (hh : Int)) (2 * (ww : Int)) c r m n f) (runF (2 * (hh : Int)) (2 * (ww : Int)) c r m n g)
  | 0 => e
  | n + 1 => step_congr (run_congr e n)
theorem backF_congr {hh ww : Nat} {c m : Int} {r : List Int} {f g : Int → Int → Int} (e : EqOn hh ww f g) : ∀ n, EqOn hh ww (backF (2 * (hh : Int)) (2 * (ww : Int)) c r m n f) (backF (2 * (hh : Int)) (2 * (ww : Int)) c r m n g)
  | 0 => e
  | n + 1 => step_congr (backF_congr e n)
theorem back_run {hh ww : Nat} {c m : Int} {r : List Int} {f : Int → Int → Int} (c0 : 2 ≤ c) (c1 : c ≤ 3) (hr : IsRule (n4 c) r) (hb : Bnd (2 * hh) (2 * ww) c f) (N : Nat) :
    ∀ k, k ≤ N → EqOn hh ww (backF (2 * (hh : Int)) (2 * (ww : Int)) c r (m + N) k (runF (2 * (hh : Int)) (2 * (ww : Int)) c r m N f)) (runF (2 * (hh : Int)) (2 * (ww : Int)) c r m (N - k) f)
  | 0, _ => EqOn.refl _
  | k + 1, hk => by
    have ih := back_run c0 c1 hr hb N k (by omega) (m := m)
    obtain ⟨j, hj⟩ : ∃ j, N - k = j + 1 := ⟨N - k - 1, by omega⟩
    rw [show N - (k + 1) = j by omega]
    rw [hj] at ih
    refine (step_congr ih).trans ?_
    rw [show m + (N : Int) - 1 - (k : Int) = m + (j : Int) by omega]
    exact step_back c0 c1 hr (bnd_run c0 hb j)
theorem run_back {hh ww : Nat} {c m : Int} {r : List Int} {f : Int → Int → Int} (c0 : 2 ≤ c) (c1 : c ≤ 3) (hr : IsRule (n4 c) r) (hb : Bnd (2 * hh) (2 * ww) c f) (N : Nat) :
    ∀ k, k ≤ N → EqOn hh ww (runF (2 * (hh : Int)) (2 * (ww : Int)) c r (m - N) k (backF (2 * (hh : Int)) (2 * (ww : Int)) c r m N f)) (backF (2 * (hh : Int)) (2 * (ww : Int)) c r m (N - k) f)
  | 0, _ => EqOn.refl _
  | k + 1, hk => by
    have ih := run_back c0 c1 hr hb N k (by omega) (m := m)
    obtain ⟨j, hj⟩ : ∃ j, N - k = j + 1 := ⟨N - k - 1, by omega⟩
    rw [show N - (k + 1) = j by omega]
    rw [hj] at ih
    refine (step_congr ih).trans ?_
    rw [show m - (N : Int) + (k : Int) = m - 1 - (j : Int) by omega]
    exact back_step c0 c1 hr (bnd_back c0 hb j)
theorem run_add {h w c m : Int} {r : List Int} {f : Int → Int → Int} (a : Nat) : ∀ b : Nat, runF h w c r (m + a) b (runF h w c r m a f) = runF h w c r m (a + b) f
  | 0 => rfl
  | b + 1 => by
    show stepF h w c r (m + a + b) (runF h w c r (m + a) b (runF h w c r m a f)) = stepF h w c r (m + ((a + b : Nat) : Int)) (runF h w c r m (a + b) f)
    rw [run_add a b, show m + (a : Int) + (b : Int) = m + ((a + b : Nat) : Int) by omega]
/-- the rule back, run as a rule -/
theorem run_backL {h w c m : Int} {r : List Int} {f : Int → Int → Int} : runF h w c (backL r) (m - 1) 1 f = backF h w c r m 1 f := by
  show stepF h w c (backL r) (m - 1 + ((0 : Nat) : Int)) f = stepF h w c (backL r) (m - 1 - ((0 : Nat) : Int)) f
  rw [show m - 1 + ((0 : Nat) : Int) = m - 1 - ((0 : Nat) : Int) by omega]
end BT
namespace BT
open PySem PySem.Spec PyProof.Rows L2 Evl
/-! ### moved boards (plain) -/
def movF (h w a b : Int) (f : Int → Int → Int) (y x : Int) : Int := f ((y - b) % h) ((x - a) % w)
theorem mov_rng {y b : Int} {hh : Nat} (h : 1 ≤ hh) : 0 ≤ (y - b) % (2 * (hh : Int)) ∧ (y - b) % (2 * (hh : Int)) < 2 * (hh : Int) :=
  ⟨Int.emod_nonneg _ (by omega), Int.emod_lt_of_pos _ (by omega)⟩
theorem mov_congr {hh ww : Nat} {a b : Int} {f g : Int → Int → Int} (h1 : 1 ≤ hh) (w1 : 1 ≤ ww) (e : EqOn hh ww f g) : EqOn hh ww (movF (2 * (hh : Int)) (2 * (ww : Int)) a b f) (movF (2 * (hh : Int)) (2 * (ww : Int)) a b g) := fun y x _ _ _ _ =>
  e _ _ (mov_rng h1).1 (mov_rng h1).2 (mov_rng w1).1 (mov_rng w1).2
theorem emod_sub1 (z h k : Int) : (z % h - k) % h = (z - k) % h := by
  rw [Int.sub_eq_add_neg, Int.emod_add_emod, ← Int.sub_eq_add_neg]
theorem par_mod (z : Int) (hh : Nat) : (z % (2 * (hh : Int))) % 2 = z % 2 := Int.emod_emod_of_dvd z (Int.dvd_mul_right 2 (hh : Int))
theorem top_self {m y : Int} {hh : Nat} (y0 : 0 ≤ y) (y1 : y < 2 * (hh : Int)) : y = topM m y (2 * (hh : Int)) ↔ (y - m) % 2 = 0 := by
  unfold topM
  rw [pred_mod y0 y1]
  split
  · simp [*]
  · split <;> simp [*] <;> omega
theorem top_mov {m m' y b : Int} {hh : Nat} (h1 : 1 ≤ hh) (hp : (m' - m + b) % 2 = 0) : topM m' ((y - b) % (2 * (hh : Int))) (2 * (hh : Int)) = (topM m y (2 * (hh : Int)) - b) % (2 * (hh : Int)) := by
  have hq := par_mod (y - b) hh
  unfold topM
  by_cases e : (y - m) % 2 = 0
  · rw [if_pos e, if_pos (by omega)]
  · rw [if_neg e, if_neg (by omega), emod_sub1, emod_sub1]
    congr 1
    omega
theorem low_mov {t b : Int} {hh : Nat} : ((t - b) % (2 * (hh : Int)) + 1) % (2 * (hh : Int)) = ((t + 1) % (2 * (hh : Int)) - b) % (2 * (hh : Int)) := by
  rw [Int.emod_add_emod, emod_sub1]
  congr 1
  omega
theorem step_mov {hh ww : Nat} {c m m' a b : Int} {r : List Int} {f : Int → Int → Int} (h1 : 1 ≤ hh) (w1 : 1 ≤ ww) (hb : (m' - m + b) % 2 = 0) (ha : (m' - m + a) % 2 = 0) :
    EqOn hh ww (stepF (2 * (hh : Int)) (2 * (ww : Int)) c r m (movF (2 * (hh : Int)) (2 * (ww : Int)) a b f)) (movF (2 * (hh : Int)) (2 * (ww : Int)) a b (stepF (2 * (hh : Int)) (2 * (ww : Int)) c r m' f)) := by
  intro y x y0 y1 x0 x1
  have s1 := top_self (m := m) y0 y1
  have s2 := top_self (m := m) x0 x1
  have s3 := top_self (m := m') (mov_rng (y := y) (b := b) h1).1 (mov_rng h1).2
  have s4 := top_self (m := m') (mov_rng (y := x) (b := a) w1).1 (mov_rng w1).2
  have q1 := par_mod (y - b) hh
  have q2 := par_mod (x - a) ww
  have c1 : (y = topM m y (2 * (hh : Int))) ↔ ((y - b) % (2 * (hh : Int)) = topM m' ((y - b) % (2 * (hh : Int))) (2 * (hh : Int))) := by rw [s1, s3]; omega
  have c2 : (x = topM m x (2 * (ww : Int))) ↔ ((x - a) % (2 * (ww : Int)) = topM m' ((x - a) % (2 * (ww : Int))) (2 * (ww : Int))) := by rw [s2, s4]; omega
  show stepF (2 * (hh : Int)) (2 * (ww : Int)) c r m (movF (2 * (hh : Int)) (2 * (ww : Int)) a b f) y x = stepF (2 * (hh : Int)) (2 * (ww : Int)) c r m' f ((y - b) % (2 * (hh : Int))) ((x - a) % (2 * (ww : Int)))
  unfold stepF
  simp only [c1, c2]
  rw [top_mov (m := m) (m' := m') (y := y) (b := b) h1 hb, top_mov (m := m) (m' := m') (y := x) (b := a) w1 ha, low_mov, low_mov]
  rfl
theorem run_mov {hh ww : Nat} {c m a b d : Int} {r : List Int} {f : Int → Int → Int} (h1 : 1 ≤ hh) (w1 : 1 ≤ ww) (hb : (d + b) % 2 = 0) (ha : (d + a) % 2 = 0) :
    ∀ n, EqOn hh ww (runF (2 * (hh : Int)) (2 * (ww : Int)) c r m n (movF (2 * (hh : Int)) (2 * (ww : Int)) a b f)) (movF (2 * (hh : Int)) (2 * (ww : Int)) a b (runF (2 * (hh : Int)) (2 * (ww : Int)) c r (m + d) n f))
  | 0 => EqOn.refl _
  | n + 1 => (step_congr (run_mov h1 w1 hb ha n)).trans (step_mov h1 w1 (by omega) (by omega))
end BT
namespace BT
open PySem PySem.Spec PyProof.Rows L2 Evl
/-! ### lists of moves (plain) -/
def hitI (t : Int → Int → Bool) (a : Int) : Nat → List (List Int)
  | 0 => []
  | j + 1 => hitI t a j ++ (if t a (0 + (j : Int) * 2) then [[a, 0 + (j : Int) * 2]] else [])
def hitO (t : Int → Int → Bool) (n : Nat) : Nat → List (List Int)
  | 0 => []
  | i + 1 => hitO t n i ++ hitI t (0 + (i : Int) * 2) n
theorem hitI_len (t : Int → Int → Bool) (a : Int) : ∀ j, (hitI t a j).length ≤ j
  | 0 => Nat.le_refl 0
  | j + 1 => by
    have := hitI_len t a j
    unfold hitI
    rw [List.length_append]
    split <;> simp <;> omega
theorem hitO_len (t : Int → Int → Bool) (n : Nat) : ∀ i, (hitO t n i).length ≤ i * n
  | 0 => by simp [hitO]
  | i + 1 => by
    have h1 := hitO_len t n i
    have h2 := hitI_len t (0 + (i : Int) * 2) n
    unfold hitO
    rw [List.length_append, Nat.succ_mul]
    omega
theorem hitI_two (t : Int → Int → Bool) (a : Int) : ∀ j, ∀ r ∈ hitI t a j, r.length = 2
  | 0, r, h => by cases h
  | j + 1, r, h => by
    unfold hitI at h
    rcases List.mem_append.mp h with h | h
    · exact hitI_two t a j r h
    · split at h
      · rw [List.mem_singleton.mp h]
        rfl
      · cases h
theorem hitO_two (t : Int → Int → Bool) (n : Nat) : ∀ i, ∀ r ∈ hitO t n i, r.length = 2
  | 0, r, h => by cases h
  | i + 1, r, h => by
    unfold hitO at h
    rcases List.mem_append.mp h with h | h
    · exact hitO_two t n i r h
    · exact hitI_two t _ n r h
theorem mk_succ (i w : Nat) (f : Int → Int → Int) : mk (i + 1) w f = mk i w f ++ [rowOf w (f (i : Int))] := by
  unfold mk
  rw [List.range_succ, List.map_append]
  rfl
/-- a list of tuples of ints -/
def LtV (K : PySem.W.Frag) (L : List (List Int)) (v : V) (H : Hp) : Prop := ∃ p us, v = .ref p ∧ SqL K H p us ∧ RwsV K L us H
theorem LtV.up {K : PySem.W.Frag} {L : List (List Int)} {v : V} {H H' : Hp} (e : Ex H H') (h : LtV K L v H) : LtV K L v H' := by
  obtain ⟨p, us, rfl, hs, hr⟩ := h
  exact ⟨p, us, rfl, ex_l e hs, hr.imm (ExI.of e)⟩
theorem lt_dp {K : PySem.W.Frag} {L : List (List Int)} {v : V} {H : Hp} (h : LtV K L v H) : Dp K H v (.list (L.map rwD)) := by
  obtain ⟨p, us, rfl, hs, hr⟩ := h
  exact .lst hs (bd_all hr.1 hr.2)
theorem shaped_lt (L : List (List Int)) : SeqAt.shaped (.list (L.map rwD)) = true := by
  obtain ⟨h1, h2⟩ := layB L
  unfold SeqAt.shaped
  simp only [PyData.canLay0, PyData.depth, h1, Bool.true_and]
  exact decide_eq_true (by omega)
theorem rv_neLT {K : PySem.W.Frag} {L M : List (List Int)} {x y : V} {H : Hp} (h1 : LtV K L x H) (h2 : LtV K M y H) : RV (rNeD K) x y H (.bl (decide (L ≠ M))) :=
  fun H1 e Q q => ⟨_, _, lt_dp (h1.up e), lt_dp (h2.up e), shaped_lt L, shaped_lt M, by rw [PyData.eqv, eqvB, ← decide_not]; exact q H1 (Ex.refl H1)⟩
section
variable {K : PySem.W.Frag} {σ : L2.St} {H H' : Hp} {ta tb tc td te tx ty to : TE} {t u : TT} {x y z v : V} {P : V → Hp → Prop} {D : Ends} {tu tw tz : TS}
/-- [[.. for x in ..] for y in range(h)] -/
theorem elg_R {ta : TA} {f : Int → Int → Int} {n : Int} {h w : Nat} {j : Nat} {vs : List Nat} (hnh : n = (h : Int)) (hh : h ≤ 1000) (hl : EvA ta σ H [.int n]) (hw : ∀ x, wipe ((wipe σ vs).set j (some x)) vs = wipe σ vs)
    (he : ∀ (i : Nat), i < h → EvL te ((wipe σ vs).set j (some (.int (i : Int)))) H ((rowOf w (f (i : Int))).map V.int)) :
    ∀ H1, Ex H H1 → ∀ Q : VK, (∀ g as H2, H1 g = none → Ex H1 H2 → (∀ a ∈ as, H1 a = none) → Grid H2 g as h w f → Q (.ref g) H2) → tLc (iRng1 ta) (gName j) tYes te vs σ H1 Q := by
  intro H1 e Q q
  refine hl H1 e _ fun H2 e2 => ⟨n, rfl, by omega, by omega, fun Dl hD => ?_⟩
  have hn : n.toNat = h := by omega
  rw [hn]
  refine lc_range (lo := 0) (n := h) (fun i H' => H2 Dl = none ∧ Ex H2 H' ∧ ∃ as : List Addr, as.length = i ∧ H' Dl = some (.lst (as.map V.ref)) ∧ as.Nodup ∧ Dl ∉ as ∧ (∀ a ∈ as, H2 a = none) ∧ ∀ (k : Nat) (a : Addr), as[k]? = some a → H' a = some (.lst ((rowOf w (f (k : Int))).map V.int)))
    ⟨hD, Ex.new hD, [], rfl, upd_same, List.nodup_nil, by simp, by simp, fun k a hk => by cases hk⟩ (fun i H' hi ⟨p1, p2, as, p3, p4, p5, p6, p7, p8⟩ => ?_) (fun H' ⟨p1, p2, as, p3, p4, p5, p6, p7, p8⟩ => ?_)
  · have e0 : (0 : Int) + (i : Int) = (i : Int) := Int.zero_add _
    rw [e0]
    refine ⟨hw _, ?_⟩
    refine he i hi H' ((e.trans e2).trans p2) _ fun l H4 hl e4 h4 => ?_
    have nl : l ≠ Dl := fun z => by rw [z, p4] at hl; cases hl
    have nla : l ∉ as := fun z => by
      obtain ⟨k, hk⟩ := List.mem_iff_getElem?.mp z
      rw [p8 k l hk] at hl
      cases hl
    have hl2 : H2 l = none := fresh_back p2 hl
    refine ⟨as.map V.ref, e4 _ _ p4, sz_lt (by rw [List.length_map]; omega), p1, Ex.mut (p2.trans e4) p1, as ++ [l], by rw [List.length_append, p3]; rfl, ?_, ?_, ?_, ?_, ?_⟩
    · rw [upd_same, List.map_append]
      rfl
    · rw [List.nodup_append]
      refine ⟨p5, by simp, fun a ha b hb => ?_⟩
      have : b = l := by simpa using hb
      rw [this]
      exact fun z => nla (z ▸ ha)
    · simp only [List.mem_append, List.mem_singleton, not_or]
      exact ⟨p6, nl.symm⟩
    · intro a ha
      rcases List.mem_append.mp ha with ha | ha
      · exact p7 a ha
      · rw [List.mem_singleton.mp ha]
        exact hl2
    · intro k a hk
      rcases Nat.lt_or_ge k as.length with hlt | hge
      · rw [List.getElem?_append_left hlt] at hk
        have hma : a ∈ as := List.mem_iff_getElem?.mpr ⟨k, hk⟩
        rw [upd_ne (show a ≠ Dl from fun z => p6 (z ▸ hma))]
        exact e4 _ _ (p8 k a hk)
      · rw [List.getElem?_append_right hge] at hk
        have hk0 : k = i := by
          have := (List.getElem?_eq_some_iff.mp hk).1
          simp only [List.length_singleton] at this
          omega
        subst hk0
        rw [p3, Nat.sub_self] at hk
        have : a = l := (Option.some.inj hk).symm
        subst this
        rw [upd_ne nl]
        exact h4
  · exact q Dl as H' (fresh_back e2 p1) (e2.trans p2) (fun a ha => fresh_back e2 (p7 a ha)) ⟨p4, by rw [p3], p5, p6, p8⟩
theorem go_asgGR {ta : TA} {f : Int → Int → Int} {n : Int} {h w : Nat} {i j : Nat} {vs : List Nat} (hnh : n = (h : Int)) (hh : h ≤ 1000) (hl : EvA ta σ H [.int n]) (hw : ∀ x, wipe ((wipe σ vs).set j (some x)) vs = wipe σ vs)
    (he : ∀ (i : Nat), i < h → EvL te ((wipe σ vs).set j (some (.int (i : Int)))) H ((rowOf w (f (i : Int))).map V.int))
    (k : ∀ g as H1, H g = none → Ex H H1 → (∀ a ∈ as, H a = none) → Grid H1 g as h w f → Go tz D (σ.set i (some (.ref g))) H1) : Go (tSeq (tAsg (tLc (iRng1 ta) (gName j) tYes te vs) (gName i)) tz) D σ H :=
  fun H1 e => elg_R hnh hh hl hw he H1 e (fun x H2 => tz D (σ.set i (some x)) H2) fun g as H2 hg e2 hf G => k g as H2 (fresh_back e hg) (e.trans e2) (fun a ha => fresh_back e (hf a ha)) G H2 (Ex.refl H2)
end
end BT
namespace BT
open PySem PySem.Spec PyProof.Rows L2 Evl
/-! ### own errors -/
structure ErrAt (K : PySem.W.Frag) (mg : Str → Option Value) (x : Str) (C : Addr) : Prop where
  nP : PySem.W.nsIn K mainGlobals x = some (some (.ref C))
  gP : mg x = some (.ref C)
  xP : PySem.W.excIn K C [.type "ValueError", .type "Exception", .type "BaseException", .type "object"] "ValueError.__new__" = true
  kP : PySem.W.keepIn K (.ref C) = true
  bP : PySem.W.subIn K (.ref C) (.type "BaseException") = some true
  vP : PySem.W.subIn K (.ref C) (.type "ValueError") = some true
  tP : PySem.W.typeIn K (.ref C) = some (.type "type")
  iP : PySem.W.isClsIn K C = true
  sP : PySem.W.subIn K (.ref C) (.ref C) = some true
  E : ExcC K C
/-- an error by name may leave -/
def RaiseE (K : PySem.W.Frag) (x : Str) (H : Hp) (E : XK) : Prop := ∀ C, PySem.W.nsIn K mainGlobals x = some (some (.ref C)) → ∀ H1, Ex H H1 → E (.ref C) none H1
/-- .. may not leave (where no error is raised) -/
def RaiseC (K : PySem.W.Frag) (x : Str) (H : Hp) (E : XK) : Prop := ∀ C, PySem.W.nsIn K mainGlobals x = some (some (.ref C)) → ∀ H1, Ex H H1 → False
section
variable {K : PySem.W.Frag} {mg : Str → Option Value} {x y : Str} {C D : Addr} {cls : Value} {b : Bool}
theorem RaiseE.up {H H' : Hp} {E : XK} (e : Ex H H') (h : RaiseE K x H E) : RaiseE K x H' E := fun C hC H1 e1 => h C hC H1 (e.trans e1)
theorem ErrAt.same {C2 : Addr} (G : ErrAt K mg x C) (h : PySem.W.nsIn K mainGlobals x = some (some (.ref C2))) : C2 = C := by
  have := h.symm.trans G.nP
  exact Value.ref.inj (Option.some.inj (Option.some.inj this))
theorem ErrAt.kit (G : ErrAt K mg x C) (h : PySem.W.subIn K cls (.ref C) = some b) : PySem.W.kitCls K cls (.ref C) = some b := by
  unfold PySem.W.kitCls
  have h1 := G.iP
  unfold PySem.W.isClsIn at h1
  dsimp only
  rw [if_pos (by rw [h1, G.tP]; rfl)]
  exact h
theorem ErrAt.exm (G : ErrAt K mg x C) (h : PySem.W.subIn K cls (.ref C) = some b) : PySem.W.exmOne K cls (.ref C) = some b := by
  unfold PySem.W.exmOne
  rw [if_pos (by rw [G.bP]; rfl)]
  exact G.kit h
theorem ErrAt.exmSelf (G : ErrAt K mg x C) : PySem.W.exmOne K (.ref C) (.ref C) = some true := G.exm G.sP
theorem kit_self : PySem.W.kitOne K (.ref C) (.ref C) = some true := by
  unfold PySem.W.kitOne
  rw [if_pos (by simp)]
theorem ErrAt.ne (G : ErrAt K mg x C) (h : PySem.W.subIn K (.ref D) (.ref C) = some false) : D ≠ C := fun z => by
  rw [z, G.sP] at h
  cases h
theorem ErrAt.kitF (G : ErrAt K mg x C) (h : PySem.W.subIn K (.ref D) (.ref C) = some false) : PySem.W.kitOne K (.ref D) (.ref C) = some false := by
  unfold PySem.W.kitOne
  rw [if_neg (by simpa using G.ne h)]
  exact G.kit h
theorem ErrAt.kitO (G : ErrAt K mg x C) (hne : D ≠ C) (h : PySem.W.subIn K (.ref D) (.ref C) = some b) : PySem.W.kitOne K (.ref D) (.ref C) = some b := by
  unfold PySem.W.kitOne
  rw [if_neg (by simpa using hne)]
  exact G.kit h
theorem ErrAt.kitV (G : ErrAt K mg x C) : PySem.W.kitOne K (.ref C) (.type "ValueError") = some true := by
  unfold PySem.W.kitOne
  rw [if_neg (by simp)]
  show (if PySem.W.kitMeta "ValueError" = true then PySem.W.subIn K (.ref C) (.type "ValueError") else none) = some true
  rw [if_pos (by decide +kernel)]
  exact G.vP
/-- isinstance(e, c), e any exception that the suite holds -/
def rIsX (K : PySem.W.Frag) (cls : Value) (d : Option Addr) (a : Addr) : List V → Hp → VK → Prop := fun xs H Q => ∃ D, cls = .ref D ∧ d = none ∧ ExcC K D ∧ rIsE K D a xs H Q
theorem call_isX {X : Cx} {a : Addr} {oe : Obj} {d : Option Addr} {pn : List (Addr × Obj)} (hz : Zc cls d oe) (hf : ∃ vs, oe.data = .fields vs) : CallR (X.suite a ((a, oe) :: pn)) (.builtin "isinstance") (rIsX X.K cls d a) := by
  intro pins s σ H xs us Q I r h
  obtain ⟨D, rfl, rfl, hE, h⟩ := h
  exact call_isE hE hz hf pins s σ H xs us Q I r h
end
section
variable {K : PySem.W.Frag} {σ : L2.St} {H H' : Hp} {ta tb te tx : TE} {t u : TT} {x y z v : V} {P : V → Hp → Prop} {D : Ends} {tu tw tz : TS}
theorem ev_isX {a C : Addr} {c : V} {cv : Value} {b : Bool} (ha : Ev ta σ H (.ref a)) (hb : Ev tb σ H c) (hE : ExcC K C) (hc : ∀ u, RelV c u → u = cv) (hk : PySem.W.kitOne K (.ref C) cv = some b) : Ev (tCB (rIsX K (.ref C) none a) (tCons ta (tCons tb tNil))) σ H (.bl b) :=
  fun H1 e Q q => ha H1 e _ fun H2 e2 => hb H2 (e.trans e2) _ fun H3 e3 => ⟨C, rfl, rfl, hE, c, cv, b, rfl, hc, hk, q H3 (e2.trans e3)⟩
/-! lists of bools -/
theorem dpBl : ∀ (bs : List Bool), DpAll K H (bs.map V.bl) (bs.map PyData.bool)
  | [] => .nil
  | b :: r => .cons (.bl b) (dpBl r)
theorem eqvBl : ∀ (ns ms : List Bool), PyData.eqvAll (ns.map PyData.bool) (ms.map PyData.bool) = decide (ns = ms)
  | [], [] => rfl
  | [], _ :: _ => rfl
  | _ :: _, [] => rfl
  | a :: r, b :: s => by
    show (PyData.eqv (.bool a) (.bool b) && PyData.eqvAll (r.map PyData.bool) (s.map PyData.bool)) = _
    rw [eqvBl r s]
    cases a <;> cases b <;> by_cases h2 : r = s <;> simp [h2, PyData.eqv]
theorem layBl : ∀ (ns : List Bool), PyData.canLayAll0 (ns.map PyData.bool) = true ∧ PyData.depthAll (ns.map PyData.bool) ≤ 1
  | [] => ⟨rfl, by simp [PyData.depthAll]⟩
  | n :: r => by
    obtain ⟨h1, h2⟩ := layBl r
    refine ⟨?_, ?_⟩
    · simp [PyData.canLayAll0, PyData.canLay0, h1]
    · simp only [List.map_cons, PyData.depthAll, PyData.depth]
      omega
theorem shaped_bl (r : List Bool) : SeqAt.shaped (.list (r.map PyData.bool)) = true := by
  obtain ⟨h1, h2⟩ := layBl r
  unfold SeqAt.shaped
  simp only [PyData.canLay0, PyData.depth, h1, Bool.true_and]
  exact decide_eq_true (by omega)
theorem rv_eqBs {p q : Addr} {ns ms : List Bool} (h1 : SqL K H p (ns.map V.bl)) (h2 : SqL K H q (ms.map V.bl)) : RV (rEqD K) (.ref p) (.ref q) H (.bl (decide (ns = ms))) :=
  fun H1 e Q k => ⟨_, _, .lst (ex_l e h1) (dpBl ns), .lst (ex_l e h2) (dpBl ms), shaped_bl ns, shaped_bl ms, by rw [PyData.eqv, eqvBl]; exact k H1 (Ex.refl H1)⟩
theorem ev_eqBs {p : Addr} {ns ms : List Bool} (ha : Ev ta σ H (.ref p)) (h : SqL K H p (ns.map V.bl)) (hb : EvL tb σ H (ms.map V.bl)) : Ev (tOp (rEqD K) ta tb) σ H (.bl (decide (ns = ms))) :=
  ev_opL ha hb fun q H1 hq e => rv_eqBs (ex_l e h) (sq_of hq)
/-- what a call that may raise promises: a value of which P holds, or an error of which R holds -/
def SpX (sp : Sp) (vs : List V) (H : Hp) (P : V → Hp → Prop) (R : Value → Prop) : Prop := ∀ H1, Ex H H1 → ∀ (Q : VK) (E : XK), (∀ v H2, Ex H1 H2 → P v H2 → Q v H2) → (∀ cls H2, Ex H1 H2 → R cls → E cls none H2) → sp vs H1 Q E
theorem go_tryAs {i j : Nat} {c : Value} {ts : Addr → Value → Option Addr → TS} {Wout : WX} {sp : Sp} {ta : TA} {vs : List V} {R : Value → Prop} (h : EvA ta σ H vs) (hs : SpX sp vs H P R)
    (k1 : ∀ v H1, Ex H H1 → P v H1 → Go tz D (σ.set j (some v)) H1)
    (k2 : ∀ cls, R cls → PySem.W.exmOne K cls c = some true ∧ ∀ a H1, Ex H H1 → Go (ts a cls none) { nx := fun σ' H' => tz D (σ'.set i none) H', rt := D.rt, bk := fun σ' H' => D.bk (σ'.set i none) H', ct := fun σ' H' => D.ct (σ'.set i none) H' } (σ.set i (some (.ref a))) H1) :
    Go (tSeq (fun D σ H => tAsg (tCallS sp (WE (wAs K c i ts Wout D)) ta) (gName j) D σ H) tz) D σ H :=
  fun H1 e => h H1 e _ fun H2 e2 => hs H2 (e.trans e2) _ _ (fun v H3 e3 hp => k1 v H3 ((e.trans e2).trans e3) hp H3 (Ex.refl H3))
    (fun cls H3 e3 hr => ⟨true, (k2 cls hr).1, fun _ a _ => (k2 cls hr).2 a H3 ((e.trans e2).trans e3) H3 (Ex.refl H3), fun z => nomatch z⟩)
theorem gn_suite {i : Nat} {rt : VK} {bk ct : L2.St → Hp → Prop} (h : Go tz D (σ.set i none) H) : GoN { nx := fun σ' H' => tz D (σ'.set i none) H', rt := rt, bk := bk, ct := ct } σ H := fun H1 e => h H1 e
theorem go_tryAsD {i : Nat} {c : Value} {ts : Addr → Value → Option Addr → TS} {Wout : WX} {sp : Sp} {ta : TA} {vs : List V} {R : Value → Prop} (h : EvA ta σ H vs) (hs : SpX sp vs H P R)
    (k1 : ∀ v H1, Ex H H1 → P v H1 → Go tz D σ H1)
    (k2 : ∀ cls, R cls → PySem.W.exmOne K cls c = some true ∧ ∀ a H1, Ex H H1 → Go (ts a cls none) { nx := fun σ' H' => tz D (σ'.set i none) H', rt := D.rt, bk := fun σ' H' => D.bk (σ'.set i none) H', ct := fun σ' H' => D.ct (σ'.set i none) H' } (σ.set i (some (.ref a))) H1) :
    Go (tSeq (fun D σ H => tDrop (tCallS sp (WE (wAs K c i ts Wout D)) ta) D σ H) tz) D σ H :=
  fun H1 e => h H1 e _ fun H2 e2 => hs H2 (e.trans e2) _ _ (fun v H3 e3 hp => k1 v H3 ((e.trans e2).trans e3) hp H3 (Ex.refl H3))
    (fun cls H3 e3 hr => ⟨true, (k2 cls hr).1, fun _ a _ => (k2 cls hr).2 a H3 ((e.trans e2).trans e3) H3 (Ex.refl H3), fun z => nomatch z⟩)
theorem go_tryAsDP {i : Nat} {c : Value} {ts : Addr → Value → Option Addr → TS} {Wout : WX} {sp : Sp} {ta : TA} {S : List V → Hp → Prop} {R : Value → Prop} (h : EvAP ta σ H S) (hs : ∀ vs H1, Ex H H1 → S vs H1 → SpX sp vs H1 P R)
    (k1 : ∀ v H1, Ex H H1 → P v H1 → Go tz D σ H1)
    (k2 : ∀ cls, R cls → PySem.W.exmOne K cls c = some true ∧ ∀ a H1, Ex H H1 → Go (ts a cls none) { nx := fun σ' H' => tz D (σ'.set i none) H', rt := D.rt, bk := fun σ' H' => D.bk (σ'.set i none) H', ct := fun σ' H' => D.ct (σ'.set i none) H' } (σ.set i (some (.ref a))) H1) :
    Go (tSeq (fun D σ H => tDrop (tCallS sp (WE (wAs K c i ts Wout D)) ta) D σ H) tz) D σ H :=
  fun H1 e => h H1 e _ fun vs H2 e2 hS => hs vs H2 (e.trans e2) hS H2 (Ex.refl H2) _ _ (fun v H3 e3 hp => k1 v H3 ((e.trans e2).trans e3) hp H3 (Ex.refl H3))
    (fun cls H3 e3 hr => ⟨true, (k2 cls hr).1, fun _ a _ => (k2 cls hr).2 a H3 ((e.trans e2).trans e3) H3 (Ex.refl H3), fun z => nomatch z⟩)
theorem go_tryOnly {j : Nat} {c : Value} {ts : Addr → Value → Option Addr → TS} {Wout : WX} {sp : Sp} {ta : TA} {vs : List V} {R : Value → Prop} (h : EvA ta σ H vs) (hs : SpX sp vs H P R)
    (k1 : ∀ v H1, Ex H H1 → P v H1 → Go tz D (σ.set j (some v)) H1)
    (k2 : ∀ cls, R cls → PySem.W.exmOne K cls c = some true ∧ ∀ a H1, Ex H H1 → Go (ts a cls none) { D with nx := tz D } σ H1) :
    Go (tSeq (fun D σ H => tAsg (tCallS sp (WE (wOnly K c ts Wout D)) ta) (gName j) D σ H) tz) D σ H :=
  fun H1 e => h H1 e _ fun H2 e2 => hs H2 (e.trans e2) _ _ (fun v H3 e3 hp => k1 v H3 ((e.trans e2).trans e3) hp H3 (Ex.refl H3))
    (fun cls H3 e3 hr => ⟨true, (k2 cls hr).1, fun _ a _ => (k2 cls hr).2 a H3 ((e.trans e2).trans e3) H3 (Ex.refl H3), fun z => nomatch z⟩)
end
end BT
namespace BT
open PySem PySem.Spec PyProof.Rows L2 Evl
/-! ### texts -/
section
variable {K : PySem.W.Frag} {σ : L2.St} {H H' : Hp} {ta tb te tx to : TE} {v : V}
theorem rv_addS {a b : Str} (h : a.length + b.length ≤ sizeLine) : RV (fun x y H Q => ∃ i j, x = V.str i ∧ y = V.str j ∧ i.length + j.length ≤ sizeLine ∧ Q (.str (i ++ j)) H) (.str a) (.str b) H (.str (a ++ b)) :=
  fun H1 e Q q => ⟨a, b, rfl, rfl, h, q H1 (Ex.refl H1)⟩
theorem ev_strI {i : Int} (ha : Ev ta σ H (.int i)) (h : i.natAbs.log2 < 1920) : Ev (tCB (fun xs H Q => ∃ i : Int, xs = [V.int i] ∧ i.natAbs.log2 < 1920 ∧ Q (.str (toString i)) H) (tCons ta tNil)) σ H (.str (toString i)) :=
  fun H1 e Q q => ha H1 e _ fun H2 e2 => ⟨i, rfl, h, q H2 e2⟩
theorem ev_intS {a : Str} {n : Int} (ha : Ev ta σ H (.str a)) (h : PySem.intText? a = some n) (hl : a.length ≤ 640) : Ev (tCB (fun xs H Q => ∃ (a : Str) (n : Int), xs = [V.str a] ∧ PySem.intText? a = some n ∧ a.length ≤ 640 ∧ Q (.int n) H) (tCons ta tNil)) σ H (.int n) :=
  fun H1 e Q q => ha H1 e _ fun H2 e2 => ⟨a, n, rfl, h, hl, q H2 e2⟩
theorem ev_lenS {a : Str} (ha : Ev ta σ H (.str a)) (h : a.length ≤ sizeLine) : Ev (tCB (fun xs H Q => ∃ z : Str, xs = [V.str z] ∧ z.length ≤ sizeLine ∧ Q (.int z.length) H) (tCons ta tNil)) σ H (.int a.length) :=
  fun H1 e Q q => ha H1 e _ fun H2 e2 => ⟨a, rfl, h, q H2 e2⟩
theorem rv_notInS {c : Nat} {z : Str} : RV rNotInS (.str ⟨#[c]⟩) (.str z) H (.bl (!decide (c ∈ z.cps.toList))) := fun H1 e Q q => ⟨c, z, rfl, rfl, q H1 (Ex.refl H1)⟩
theorem rv_ixS {z : Str} {i : Int} {c : Nat} (hl : z.length ≤ sizeLine) (h : atI z.cps.toList i = some c) : RV rIxS (.str z) (.int i) H (.str ⟨#[c]⟩) := fun H1 e Q q => ⟨z, i, c, rfl, rfl, hl, h, q H1 (Ex.refl H1)⟩
theorem ev_join {a : Str} {ys : List Str} (ho : Ev to σ H (.str a)) (he : EvL te σ H (ys.map V.str)) (h : (ys.map (·.length)).sum + ys.length * a.length ≤ 16777216) :
    Ev (tM1 (fun x xs H Q => ∃ a p, ∃ ys : List Str, x = V.str a ∧ xs = [.ref p] ∧ (SqL K H p (ys.map V.str) ∨ SqT K H p (ys.map V.str)) ∧ (ys.map (·.length)).sum + ys.length * a.length ≤ 16777216 ∧ Q (.str (Txt.join a ys)) H) to te) σ H (.str (Txt.join a ys)) :=
  fun H1 e Q q => ho H1 e _ fun H2 e2 => ⟨⟨a, rfl⟩, he H2 (e.trans e2) _ fun p H3 hp e3 h3 => ⟨a, p, ys, rfl, rfl, .inl (sq_of h3), h, q H3 (e2.trans e3)⟩⟩
theorem el_split {a b : Str} (ho : Ev to σ H (.str a)) (he : Ev te σ H (.str b)) (h : (b.length == 0) = false) (hl : a.length + 2 ≤ sizeLine) :
    EvL (tM1 (fun x xs H Q => ∃ a b, x = V.str a ∧ xs = [.str b] ∧ (b.length == 0) = false ∧ a.length + 2 ≤ sizeLine ∧ rNewStrs (Txt.split a b) H Q) to te) σ H ((Txt.split a b).map V.str) :=
  fun H1 e Q q => ho H1 e _ fun H2 e2 => ⟨⟨a, rfl⟩, he H2 (e.trans e2) _ fun H3 e3 => ⟨a, b, rfl, rfl, h, hl, fun p hp => q p _ (fresh_back (e2.trans e3) hp) ((e2.trans e3).trans (Ex.new hp)) upd_same⟩⟩
end
section
variable {X : Cx}
theorem pe_joinK {K : PySem.W.Frag} {o e : Expr} {to te : TE} {apos pos : Pos} (hK : X.K = K) (ho : PE X o to) (he : PE X e te) (hs : starEach [e] X.env = [(false, eval e X.env)] := by rfl) (hbase : attributeBase o "join" X.env (eval o X.env) = eval o X.env := by rfl) (hline : (apos.endLine == pos.line) = true := by rfl) :
    PE X (.Call (.Attribute o "join" apos) [e] [] pos) (tM1 (fun x xs H Q => ∃ a p, ∃ ys : List Str, x = V.str a ∧ xs = [.ref p] ∧ (SqL K H p (ys.map V.str) ∨ SqT K H p (ys.map V.str)) ∧ (ys.map (·.length)).sum + ys.length * a.length ≤ 16777216 ∧ Q (.str (Txt.join a ys)) H) to te) := by
  subst hK
  exact pe_join ho he hs hbase hline
end
end BT

namespace BT
open PySem PySem.Spec PyProof.Rows L2 Evl
theorem len_app (a b : Str) : (a ++ b).length = a.length + b.length := by
  exact Array.size_append ..
theorem strjoin_len (y : Str) : ∀ parts : List Str, (Str.join y parts).length ≤ (parts.map (·.length)).sum + parts.length * y.length
  | [] => by simp [Str.join]; rfl
  | [p] => by simp [Str.join]
  | p :: q :: r => by
    have ih := strjoin_len y (q :: r)
    show (p ++ y ++ Str.join y (q :: r)).length ≤ _
    rw [len_app, len_app]
    simp only [List.map_cons, List.sum_cons, List.length_cons] at *
    rw [Nat.succ_mul]
    omega
theorem join_len (y : Str) (parts : List Str) : (Txt.join y parts).length ≤ (parts.map (·.length)).sum + parts.length * y.length := by
  rw [TL.join_eq]
  exact strjoin_len y parts
theorem small_all : ((List.range 81).all fun n => decide ((toString ((n : Nat) : Int) : Str).length ≤ 2)) = true := by decide +kernel
theorem str_small {i : Int} (h0 : 0 ≤ i) (h1 : i < 81) : (toString i : Str).length ≤ 2 := by
  obtain ⟨n, rfl⟩ := Int.eq_ofNat_of_zero_le h0
  exact of_decide_eq_true (List.all_eq_true.mp small_all n (List.mem_range.mpr (by omega)))
end BT

namespace BT
open PySem PySem.Spec PyProof.Rows L2 Evl
theorem cut_snoc (xs : List V) (v : V) : cutV (xs ++ [v]) none (some (-1)) = xs := by
  have e1 : HT.sIx (xs ++ [v]).length 0 none = 0 := rfl
  have e2 : HT.sIx (xs ++ [v]).length (xs ++ [v]).length (some (-1)) = (-1 + ((xs ++ [v]).length : Int)).toNat := rfl
  unfold cutV
  rw [e1, e2, List.drop_zero, List.length_append]
  show (xs ++ [v]).take ((-1 + ((xs.length + 1 : Nat) : Int)).toNat - 0) = xs
  rw [show (-1 + ((xs.length + 1 : Nat) : Int)).toNat - 0 = xs.length by omega, List.take_left]
theorem atI_snoc (xs : List V) (v : V) : atI (xs ++ [v]) (-1) = some v := by
  unfold atI ixN
  rw [List.length_append]
  have e : xs.length + [v].length = xs.length + 1 := rfl
  rw [e, if_neg (by decide), if_pos (by omega), show ((-1 : Int) + ((xs.length + 1 : Nat) : Int)).toNat = xs.length by omega]
  show (xs ++ [v])[xs.length]? = some v
  simp
theorem app_empty (a : Str) : a ++ ("" : Str) = a := by
  show (⟨a.cps ++ #[]⟩ : Str) = a
  rw [Array.append_empty]
/-- lines, each with its end -/
theorem ends_join (n : Str) : ∀ ps : List Str, Str.join ("" : Str) (ps.map fun p => p ++ n) = Str.join n (ps ++ [("" : Str)])
  | [] => rfl
  | [p] => by
    show p ++ n = p ++ n ++ ("" : Str)
    rw [app_empty]
  | p :: q :: r => by
    have ih := ends_join n (q :: r)
    show p ++ n ++ ("" : Str) ++ Str.join ("" : Str) ((q :: r).map fun p => p ++ n) = p ++ n ++ Str.join n ((q :: r) ++ [("" : Str)])
    rw [ih, app_empty]
theorem nl_tl : TL.tl ("\n" : Str) = 10 :: [] := by decide
end BT

namespace BT
open PySem PySem.Spec PyProof.Rows L2 Evl
/-! ### loops over a text -/
theorem for_S {z : Str} {g : TG} {tb : TS} {D : Ends} {σ : L2.St} {H : Hp} (Pv : Nat → L2.St → Hp → Prop) (h0 : Pv 0 σ H)
    (hs : ∀ (i : Nat) (c : Nat) (σ : L2.St) (H : Hp), z.cps[i]? = some c → Pv i σ H → g (.str ⟨#[c]⟩) σ H fun σ2 H2 => tb { D with nx := Pv (i + 1), ct := Pv (i + 1), bk := D.nx } σ2 H2) (hd : ∀ σ H, Pv z.cps.size σ H → D.nx σ H) :
    ∃ W : Nat → Nat → L2.St → Hp → Prop, (∃ m, W 0 m σ H) ∧ ∀ i m σ H, W i m σ H →
      ((Its z).stop i H ∧ D.nx σ H) ∨ ((Its z).go i H ∧ ∃ N : L2.St → Hp → Prop, (∀ σ' H', N σ' H' → ∃ m', m' < m ∧ W (i + 1) m' σ' H') ∧ ∀ v H', (Its z).yld i H v H' → g v σ H' fun σ2 H2 => tb { D with nx := N, ct := N, bk := D.nx } σ2 H2) := by
  refine ⟨fun i m σ H => m = z.cps.size - i ∧ i ≤ z.cps.size ∧ Pv i σ H, ⟨z.cps.size, rfl, Nat.zero_le _, h0⟩, ?_⟩
  rintro i m σ H ⟨rfl, hi, p⟩
  by_cases hlt : i < z.cps.size
  · refine .inr ⟨hlt, Pv (i + 1), fun σ' H' p' => ⟨z.cps.size - (i + 1), by omega, rfl, hlt, p'⟩, fun v H' y => ?_⟩
    obtain ⟨e, c, hc, rfl⟩ := y
    subst e
    exact hs i c σ _ hc p
  · have e : i = z.cps.size := by omega
    subst e
    exact .inl ⟨Nat.le_refl _, hd σ H p⟩
theorem go_forS {z : Str} {tl : TE} {j : Nat} {σ : L2.St} {H : Hp} {D : Ends} {tu tz : TS} (h : Ev tl σ H (.str z)) (Pv : Nat → L2.St → Hp → Prop) (h0 : ∀ H1, Ex H H1 → Pv 0 σ H1)
    (hs : ∀ (i c : Nat) σ' H', z.cps[i]? = some c → Pv i σ' H' → Go tu { D with nx := Pv (i + 1), ct := Pv (i + 1), bk := tz D } (σ'.set j (some (.str ⟨#[c]⟩))) H') (hd : ∀ σ' H', Pv z.cps.size σ' H' → Go tz D σ' H') : Go (tSeq (tFor (iStr tl) (gName j) tu) tz) D σ H :=
  fun H1 e => h H1 e _ fun H2 e2 => ⟨z, rfl, for_S (D := { D with nx := tz D }) Pv (h0 H2 (e.trans e2)) (fun i c σ' H' hc p => (hs i c σ' H' hc p).at) (fun σ' H' p => (hd σ' H' p).at)⟩
end BT

namespace BT
open PySem PySem.Spec PyProof.Rows L2 Evl
/-! ### a comprehension over a text -/
theorem lc_S {z : Str} {g : TG} {tt : TT} {te : TE} {vs : List Nat} {σ : L2.St} {H1 : Hp} {D : Addr} {Qd : Hp → Prop} (Pv : Nat → Hp → Prop) (h0 : Pv 0 (upd H1 D (.lst [])))
    (hs : ∀ (i c : Nat) H, z.cps[i]? = some c → Pv i H → g (.str ⟨#[c]⟩) (wipe σ vs) H fun σ2 H2 => wipe σ2 vs = wipe σ vs ∧ tt σ2 H2 fun b H3 =>
      if b = true then te σ2 H3 fun y H4 => ∃ acc, H4 D = some (.lst acc) ∧ acc.length < sizeLine ∧ Pv (i + 1) (upd H4 D (.lst (acc ++ [y]))) else Pv (i + 1) H3) (hd : ∀ H, Pv z.cps.size H → Qd H) :
    ∃ W : Nat → Nat → Hp → Prop, (∃ m, W 0 m (upd H1 D (.lst []))) ∧ ∀ i m H, W i m H →
      ((Its z).stop i H ∧ Qd H) ∨ ((Its z).go i H ∧ ∃ Nx : Hp → Prop, (∀ H', Nx H' → ∃ m', m' < m ∧ W (i + 1) m' H') ∧ ∀ x H', (Its z).yld i H x H' → g x (wipe σ vs) H' fun σ2 H2 => wipe σ2 vs = wipe σ vs ∧ tt σ2 H2 fun b H3 =>
        if b = true then te σ2 H3 fun y H4 => ∃ acc, H4 D = some (.lst acc) ∧ acc.length < sizeLine ∧ Nx (upd H4 D (.lst (acc ++ [y]))) else Nx H3) := by
  refine ⟨fun i m H => m = z.cps.size - i ∧ i ≤ z.cps.size ∧ Pv i H, ⟨z.cps.size, rfl, Nat.zero_le _, h0⟩, ?_⟩
  rintro i m H ⟨rfl, hi, p⟩
  by_cases hlt : i < z.cps.size
  · refine .inr ⟨hlt, Pv (i + 1), fun H' p' => ⟨z.cps.size - (i + 1), by omega, rfl, hlt, p'⟩, fun v H' y => ?_⟩
    obtain ⟨e, c, hc, rfl⟩ := y
    subst e
    exact hs i c _ hc p
  · have e : i = z.cps.size := by omega
    subst e
    exact .inl ⟨Nat.le_refl _, hd H p⟩
theorem el_lcS {σ : L2.St} {H : Hp} {t : TT} {te : TE} {z : Str} {tl : TE} {j : Nat} {vs : List Nat} (f : Nat → Bool) (v : Nat → V) (h : Ev tl σ H (.str z)) (hz : z.cps.size ≤ 40000) (hw : ∀ x, wipe ((wipe σ vs).set j (some x)) vs = wipe σ vs)
    (ht : ∀ (i c : Nat) H1, Ex H H1 → z.cps[i]? = some c → EvT t ((wipe σ vs).set j (some (.str ⟨#[c]⟩))) H1 (f i)) (he : ∀ (i c : Nat) H1, Ex H H1 → z.cps[i]? = some c → f i = true → Ev te ((wipe σ vs).set j (some (.str ⟨#[c]⟩))) H1 (v i)) :
    EvL (tLc (iStr tl) (gName j) t te vs) σ H (given z.cps.size f v) := fun H0 e Q q => h H0 e _ fun H1 e1 => ⟨z, rfl, fun Dl hD =>
  lc_S (Cw H1 f v Dl) ⟨hD, Ex.new hD, upd_same⟩ (fun i c H' hi p => ⟨hw _, cw_turn p (by have := (Array.getElem?_eq_some_iff.mp hi).1; omega) (ht i c H1 (e.trans e1) hi) (fun hf => he i c H1 (e.trans e1) hi hf)⟩)
    (fun H' p => q Dl H' (fresh_back e1 p.1) (e1.trans p.2.1) p.2.2)⟩
end BT

namespace BT
open PySem PySem.Spec PyProof.Rows L2 Evl
/-! ### more of texts: lists over new lists, joins by their signs -/
section
variable {K : PySem.W.Frag} {σ : L2.St} {H H' : Hp} {te tl : TE} {P : V → Hp → Prop} {D : Ends} {tz : TS}
theorem elp_NL {xs : List V} {j : Nat} {vs : List Nat} {P : Nat → V → Hp → Prop} (m : ∀ i, Imm (P i)) (h : EvL tl σ H xs) (hz : xs.length ≤ 40000) (hw : ∀ x, wipe ((wipe σ vs).set j (some x)) vs = wipe σ vs)
    (he : ∀ (i : Nat) (x : V), xs[i]? = some x → EvP te ((wipe σ vs).set j (some x)) H (P i)) : EvLP (tLc (iList K tl) (gName j) tYes te vs) σ H xs.length P := fun H0 e Q q => h H0 e _ fun a H1 ha e1 hx => ⟨a, rfl, ⟨xs, sq_of hx⟩, fun Dl hD =>
  lc_list (xs := xs) (CwP H1 P Dl) ⟨hD, Ex.new hD, [], upd_same, rfl, fun k v hk => by cases hk⟩ (fun i H' _ p => sq_of (p.2.1 a _ hx))
    (fun i x H' hi p => ⟨hw x, cwP_turn m p (by have := (List.getElem?_eq_some_iff.mp hi).1; omega) ((he i x hi).mono (e.trans e1))⟩) (fun H' ⟨p1, p2, ws, p3, p4, p5⟩ => q Dl H' ws (fresh_back e1 p1) (e1.trans p2) p3 p4 p5)⟩
theorem el_is {xs ys : List V} (h : EvL te σ H xs) (e : xs = ys) : EvL te σ H ys := by rw [← e]; exact h
theorem go_dropP (h : EvP te σ H P) (k : ∀ H1, Ex H H1 → Go tz D σ H1) : Go (tSeq (tDrop te) tz) D σ H := fun H1 e => h H1 e _ fun v H2 e2 _ => k H2 (e.trans e2) H2 (Ex.refl H2)
/-- what a new list over a new list gives -/
theorem el_mapNL {xs : List V} {j : Nat} {vs : List Nat} (v : Nat → V) (h : EvL tl σ H xs) (hz : xs.length ≤ 40000) (hw : ∀ x, wipe ((wipe σ vs).set j (some x)) vs = wipe σ vs)
    (he : ∀ (i : Nat) (x : V) H1, Ex H H1 → xs[i]? = some x → Ev te ((wipe σ vs).set j (some x)) H1 (v i)) : EvL (tLc (iList K tl) (gName j) tYes te vs) σ H ((List.range xs.length).map v) := by
  have := el_lcNL (K := K) (t := tYes) (te := te) (fun _ => true) v h hz hw (fun _ _ _ _ _ => et_yes) (fun i x H1 e hi _ => he i x H1 e hi)
  rwa [given_all] at this
end
theorem app_assoc (a b c : Str) : a ++ b ++ c = a ++ (b ++ c) := by
  show (⟨a.cps ++ b.cps ++ c.cps⟩ : Str) = ⟨a.cps ++ (b.cps ++ c.cps)⟩
  rw [Array.append_assoc]
theorem mem_tl_app {a b : Str} {c : Nat} : c ∈ TL.tl (a ++ b) ↔ c ∈ TL.tl a ∨ c ∈ TL.tl b := by rw [TL.tl_append]; exact List.mem_append
theorem mem_join {y : Str} {c : Nat} : ∀ {ps : List Str}, c ∈ TL.tl (Str.join y ps) → c ∈ TL.tl y ∨ ∃ p ∈ ps, c ∈ TL.tl p
  | [], h => by simp [Str.join] at h; exact absurd h (by decide +revert)
  | [p], h => .inr ⟨p, by simp, h⟩
  | p :: q :: r, h => by
    have h : c ∈ TL.tl (p ++ y ++ Str.join y (q :: r)) := h
    rw [mem_tl_app, mem_tl_app] at h
    rcases h with (h | h) | h
    · exact .inr ⟨p, by simp, h⟩
    · exact .inl h
    · rcases mem_join h with h | ⟨z, hz, h⟩
      · exact .inl h
      · exact .inr ⟨z, List.mem_cons_of_mem _ hz, h⟩
theorem join_cons (y p : Str) {ps : List Str} (h : ps ≠ []) : Str.join y (p :: ps) = p ++ y ++ Str.join y ps := by
  cases ps with
  | nil => exact absurd rfl h
  | cons q r => rfl
/-- the signs of a number below 81 -/
theorem num_sig : ((List.range 81).all fun n => (TL.tl (toString ((n : Nat) : Int) : Str)).all fun c => decide (48 ≤ c) && decide (c ≤ 57)) = true := by decide +kernel
theorem num_sigs {i : Int} (h0 : 0 ≤ i) (h1 : i < 81) {c : Nat} (hc : c ∈ TL.tl (toString i : Str)) : 48 ≤ c ∧ c ≤ 57 := by
  obtain ⟨n, rfl⟩ := Int.eq_ofNat_of_zero_le h0
  have := List.all_eq_true.mp (List.all_eq_true.mp num_sig n (List.mem_range.mpr (by omega))) c hc
  simpa using this
end BT

namespace BT
open PySem PySem.Spec PyProof.Rows L2 Evl
theorem sumTx_le {b : Nat} : ∀ (ys : List Str), (∀ y ∈ ys, y.length ≤ b) → (ys.map (·.length)).sum ≤ ys.length * b
  | [], _ => by simp
  | y :: ys, h => by
    have h1 := h y (by simp)
    have h2 := sumTx_le ys fun z hz => h z (List.mem_cons_of_mem _ hz)
    simp only [List.map_cons, List.sum_cons, List.length_cons]
    rw [Nat.succ_mul]
    omega
theorem joinTx_le {b : Nat} (y : Str) (ps : List Str) (h : ∀ p ∈ ps, p.length ≤ b) : (Str.join y ps).length ≤ ps.length * b + ps.length * y.length :=
  Nat.le_trans (strjoin_len y ps) (Nat.add_le_add_right (sumTx_le ps h) _)
end BT
namespace BT
open PySem PySem.Spec PyProof.Rows L2 Evl
/-! ### rings of a permutation (plain) -/
section
variable {α : Type} [DecidableEq α]
def itr (F : α → α) : Nat → α → α
  | 0, x => x
  | n + 1, x => F (itr F n x)
theorem itr_add (F : α → α) (a : Nat) : ∀ (b : Nat) (x : α), itr F (a + b) x = itr F b (itr F a x)
  | 0, _ => rfl
  | b + 1, x => by
    show F (itr F (a + b) x) = F (itr F b (itr F a x))
    rw [itr_add F a b]
theorem itr_one (F : α → α) (n : Nat) (x : α) : itr F (n + 1) x = itr F n (F x) := by
  rw [Nat.add_comm, itr_add]
  rfl
/-- F leads X into X, no two to one -/
structure PermOn (F : α → α) (X : List α) : Prop where
  nd : X.Nodup
  to : ∀ x ∈ X, F x ∈ X
  inj : ∀ x ∈ X, ∀ y ∈ X, F x = F y → x = y
section
variable {F : α → α} {X : List α}
theorem PermOn.itr_mem (h : PermOn F X) {x : α} (hx : x ∈ X) : ∀ n, itr F n x ∈ X
  | 0 => hx
  | n + 1 => h.to _ (h.itr_mem hx n)
theorem PermOn.itr_inj (h : PermOn F X) : ∀ (n : Nat) {x y : α}, x ∈ X → y ∈ X → itr F n x = itr F n y → x = y
  | 0, _, _, _, _, e => e
  | n + 1, _, _, hx, hy, e => h.itr_inj n hx hy (h.inj _ (h.itr_mem hx n) _ (h.itr_mem hy n) e)
/-- n is the least number of turns behind which x comes again -/
def perB (F : α → α) (x : α) (n : Nat) : Bool := decide (1 ≤ n) && (decide (itr F n x = x) && (List.range n).all fun k => decide (k = 0) || decide (itr F k x ≠ x))
theorem perB_iff {x : α} {n : Nat} : perB F x n = true ↔ 1 ≤ n ∧ itr F n x = x ∧ ∀ k, 1 ≤ k → k < n → itr F k x ≠ x := by
  unfold perB
  simp only [Bool.and_eq_true, decide_eq_true_eq, List.all_eq_true, List.mem_range, Bool.or_eq_true]
  constructor
  · rintro ⟨a, b, c⟩
    exact ⟨a, b, fun k h1 h2 => (c k h2).resolve_left (by omega)⟩
  · rintro ⟨a, b, c⟩
    exact ⟨a, b, fun k h2 => by
      by_cases h0 : k = 0
      · exact .inl h0
      · exact .inr (c k (by omega) h2)⟩
theorem perB_uniq {x : α} {n m : Nat} (a : perB F x n = true) (b : perB F x m = true) : n = m := by
  obtain ⟨a1, a2, a3⟩ := perB_iff.mp a
  obtain ⟨b1, b2, b3⟩ := perB_iff.mp b
  rcases Nat.lt_trichotomy n m with h | h | h
  · exact absurd a2 (b3 n a1 h)
  · exact h
  · exact absurd b2 (a3 m b1 h)
theorem perB_itr (h : PermOn F X) {x : α} (hx : x ∈ X) {n : Nat} (a : perB F x n = true) (j : Nat) : perB F (itr F j x) n = true := by
  obtain ⟨a1, a2, a3⟩ := perB_iff.mp a
  refine perB_iff.mpr ⟨a1, ?_, fun k h1 h2 e => a3 k h1 h2 ?_⟩
  · rw [← itr_add, Nat.add_comm, itr_add, a2]
  · rw [← itr_add, Nat.add_comm, itr_add] at e
    exact h.itr_inj j (h.itr_mem hx k) hx e
def orb (F : α → α) (x : α) (k : Nat) : List α := (List.range k).map fun j => itr F j x
theorem orb_succ (x : α) (k : Nat) : orb F x (k + 1) = orb F x k ++ [itr F k x] := by unfold orb; rw [List.range_succ, List.map_append]; rfl
theorem mem_orb {x y : α} {k : Nat} : y ∈ orb F x k ↔ ∃ j, j < k ∧ itr F j x = y := by
  unfold orb
  rw [List.mem_map]
  constructor
  · rintro ⟨j, h1, h2⟩; exact ⟨j, List.mem_range.mp h1, h2⟩
  · rintro ⟨j, h1, h2⟩; exact ⟨j, List.mem_range.mpr h1, h2⟩
theorem len_orb (x : α) (k : Nat) : (orb F x k).length = k := by unfold orb; simp
theorem sub_perm : ∀ {l m : List α}, l.Nodup → (∀ x ∈ l, x ∈ m) → m.length ≤ l.length → l.Perm m
  | [], m, _, _, h => by
    have : m = [] := List.length_eq_zero_iff.mp (Nat.le_zero.mp h)
    rw [this]
  | a :: l, m, nd, hs, h => by
    obtain ⟨n1, n2⟩ := List.nodup_cons.mp nd
    have ha := hs a (by simp)
    have p := List.perm_cons_erase ha
    have hl : (m.erase a).length + 1 = m.length := by
      have := p.length_eq
      simp only [List.length_cons] at this
      omega
    refine List.Perm.trans (List.Perm.cons a (sub_perm n2 (fun x hx => ?_) ?_)) p.symm
    · have hm := hs x (List.mem_cons_of_mem _ hx)
      exact (List.mem_erase_of_ne (fun z => n1 (by rw [← z]; exact hx))).mpr hm
    · simp only [List.length_cons] at h
      omega
theorem nodup_mapOn {β : Type} {F : α → β} : ∀ {S : List α}, S.Nodup → (∀ x ∈ S, ∀ y ∈ S, F x = F y → x = y) → (S.map F).Nodup
  | [], _, _ => List.nodup_nil
  | a :: S, nd, hi => by
    obtain ⟨n1, n2⟩ := List.nodup_cons.mp nd
    rw [List.map_cons]
    refine List.nodup_cons.mpr ⟨fun z => ?_, nodup_mapOn n2 fun x hx y hy => hi x (List.mem_cons_of_mem _ hx) y (List.mem_cons_of_mem _ hy)⟩
    obtain ⟨b, hb, e⟩ := List.mem_map.mp z
    have := hi b (List.mem_cons_of_mem _ hb) a (by simp) e
    exact n1 (by rw [← this]; exact hb)
/-- what is seen: some of X, whole rings -/
structure Closed (F : α → α) (X S : List α) : Prop where
  nd : S.Nodup
  sub : ∀ x ∈ S, x ∈ X
  to : ∀ x ∈ S, F x ∈ S
theorem Closed.back (h : PermOn F X) {S : List α} (c : Closed F X S) {x : α} (hx : x ∈ X) (hf : F x ∈ S) : x ∈ S := by
  have p : (S.map F).Perm S := sub_perm (nodup_mapOn c.nd fun x hx y hy => h.inj x (c.sub x hx) y (c.sub y hy)) (fun y hy => by
    obtain ⟨z, hz, rfl⟩ := List.mem_map.mp hy
    exact c.to z hz) (by rw [List.length_map]; exact Nat.le_refl _)
  obtain ⟨z, hz, e⟩ := List.mem_map.mp (p.mem_iff.mpr hf)
  rw [← h.inj z (c.sub z hz) x hx e]
  exact hz
theorem Closed.back_itr (h : PermOn F X) {S : List α} (c : Closed F X S) {x : α} (hx : x ∈ X) : ∀ n, itr F n x ∈ S → x ∈ S
  | 0, e => e
  | n + 1, e => c.back_itr h hx n (c.back h (h.itr_mem hx n) e)
/-- the turns of a walk from a board not seen -/
structure Walk (F : α → α) (X S : List α) (x : α) (k : Nat) : Prop where
  new : x ∉ S
  hx : x ∈ X
  far : ∀ j, 1 ≤ j → j < k → itr F j x ≠ x
theorem Walk.out (h : PermOn F X) {S : List α} (c : Closed F X S) {x : α} {k : Nat} (W : Walk F X S x k) (j : Nat) : itr F j x ∉ S := fun z => W.new (c.back_itr h W.hx j z)
theorem Walk.nd (h : PermOn F X) {S : List α} (c : Closed F X S) {x : α} {k : Nat} (W : Walk F X S x k) : (S ++ orb F x k).Nodup := by
  refine List.nodup_append.mpr ⟨c.nd, ?_, fun a ha b hb e => ?_⟩
  · unfold orb
    rw [List.Nodup, List.pairwise_map]
    refine List.Pairwise.imp_of_mem (R := (· < ·)) (fun {i j} hi hj hij e => ?_) List.pairwise_lt_range
    have hi := List.mem_range.mp hi
    have hj := List.mem_range.mp hj
    have e2 : itr F i (itr F (j - i) x) = itr F i x := by rw [← itr_add, show j - i + i = j by omega, e]
    exact W.far (j - i) (by omega) (by omega) (h.itr_inj i (h.itr_mem W.hx _) W.hx e2)
  · obtain ⟨j, _, rfl⟩ := mem_orb.mp hb
    subst e
    exact W.out h c j ha
theorem Walk.sub (h : PermOn F X) {S : List α} (c : Closed F X S) {x : α} {k : Nat} (W : Walk F X S x k) : ∀ y ∈ S ++ orb F x k, y ∈ X := fun y hy => by
  rcases List.mem_append.mp hy with hy | hy
  · exact c.sub y hy
  · obtain ⟨j, _, rfl⟩ := mem_orb.mp hy
    exact h.itr_mem W.hx j
theorem len_sub : ∀ {l m : List α}, l.Nodup → (∀ x ∈ l, x ∈ m) → l.length ≤ m.length := fun {l m} nd hs => by
  rcases Nat.lt_or_ge m.length l.length with z | z
  · have := (sub_perm nd hs (Nat.le_of_lt z)).length_eq
    omega
  · exact z
theorem Walk.le (h : PermOn F X) {S : List α} (c : Closed F X S) {x : α} {k : Nat} (W : Walk F X S x k) : S.length + k ≤ X.length := by
  have := len_sub (W.nd h c) (W.sub h c)
  rwa [List.length_append, len_orb] at this
/-- the next board was not met -/
theorem Walk.next {S : List α} {x : α} {k : Nat} (W : Walk F X S x k) (hn : itr F k x ∉ S ++ orb F x k) : Walk F X S x (k + 1) := ⟨W.new, W.hx, fun j h1 h2 => by
  rcases Nat.lt_or_ge j k with h3 | h3
  · exact W.far j h1 h3
  · obtain rfl : j = k := by omega
    exact fun e => hn (List.mem_append.mpr (.inr (mem_orb.mpr ⟨0, by omega, e.symm⟩)))⟩
theorem Walk.end (h : PermOn F X) {S : List α} (c : Closed F X S) {x : α} {k : Nat} (W : Walk F X S x k) (hm : itr F k x ∈ S ++ orb F x k) : perB F x k = true := by
  rcases List.mem_append.mp hm with z | z
  · exact absurd z (W.out h c k)
  · obtain ⟨j, hj, e⟩ := mem_orb.mp z
    have e2 : itr F j (itr F (k - j) x) = itr F j x := by rw [← itr_add, show k - j + j = k by omega, e]
    have e3 := h.itr_inj j (h.itr_mem W.hx _) W.hx e2
    have h0 : j = 0 := by
      rcases Nat.eq_zero_or_pos j with z | z
      · exact z
      · exact absurd e3 (W.far (k - j) (by omega) (by omega))
    subst h0
    exact perB_iff.mpr ⟨by omega, e3, W.far⟩
/-- lengths told so far, for what is seen -/
structure Told (F : α → α) (X S : List α) (Ls : List Nat) : Prop where
  cl : Closed F X S
  pos : ∀ n ∈ Ls, 1 ≤ n
  sum : Ls.sum = S.length
  cnt : ∀ n, 1 ≤ n → Ls.count n * n = S.countP fun x => perB F x n
theorem Told.none : Told F X [] [] := ⟨⟨List.nodup_nil, (fun _ h => nomatch h), (fun _ h => nomatch h)⟩, (fun _ h => nomatch h), rfl, fun n _ => by simp⟩
theorem countP_const {p : α → Bool} {b : Bool} : ∀ {l : List α}, (∀ x ∈ l, p x = b) → l.countP p = if b then l.length else 0
  | [], _ => by cases b <;> rfl
  | a :: l, h => by
    have ih := countP_const (l := l) fun x hx => h x (List.mem_cons_of_mem _ hx)
    rw [List.countP_cons, ih, h a (by simp)]
    cases b <;> simp
theorem Told.ring (h : PermOn F X) {S : List α} {Ls : List Nat} (t : Told F X S Ls) {x : α} {k : Nat} (W : Walk F X S x k) (p : perB F x k = true) : Told F X (S ++ orb F x k) (Ls ++ [k]) := by
  obtain ⟨p1, p2, p3⟩ := perB_iff.mp p
  refine ⟨⟨W.nd h t.cl, W.sub h t.cl, fun y hy => ?_⟩, fun n hn => ?_, ?_, fun n hn => ?_⟩
  · rcases List.mem_append.mp hy with hy | hy
    · exact List.mem_append.mpr (.inl (t.cl.to y hy))
    · obtain ⟨j, hj, rfl⟩ := mem_orb.mp hy
      refine List.mem_append.mpr (.inr (mem_orb.mpr ?_))
      rcases Nat.lt_or_ge (j + 1) k with h1 | h1
      · exact ⟨j + 1, h1, rfl⟩
      · refine ⟨0, by omega, ?_⟩
        show x = itr F (j + 1) x
        rw [show j + 1 = k by omega, p2]
  · rcases List.mem_append.mp hn with hn | hn
    · exact t.pos n hn
    · rw [List.mem_singleton.mp hn]; exact p1
  · rw [List.sum_append, List.length_append, len_orb, t.sum]
    simp
  · rw [List.count_append, List.countP_append, Nat.add_mul, t.cnt n hn]
    congr 1
    have e := countP_const (l := orb F x k) (p := fun y => perB F y n) (b := decide (n = k)) fun y hy => by
      obtain ⟨j, _, rfl⟩ := mem_orb.mp hy
      have q := perB_itr h W.hx p j
      by_cases e : n = k
      · rw [e, q]; simp
      · rw [decide_eq_false e]
        cases hc : perB F (itr F j x) n with
        | false => rfl
        | true => exact absurd (perB_uniq hc q) e
    rw [e, len_orb]
    by_cases e : n = k
    · subst e; simp
    · have : ¬ k = n := fun z => e z.symm
      rw [decide_eq_false e]
      simp [List.count_singleton, this]
/-- how many rings of each length -/
def histC (F : α → α) (X : List α) : List (List Int) := ((List.range (X.length + 1)).filter fun n => decide (0 < X.countP fun x => perB F x n)).map fun n : Nat => [(n : Int), ((X.countP (fun x => perB F x n) / n : Nat) : Int)]
theorem histC_perm {X Y : List α} (p : X.Perm Y) : histC F X = histC F Y := by
  unfold histC
  rw [p.length_eq]
  have e : ∀ n, X.countP (fun x => perB F x n) = Y.countP (fun x => perB F x n) := fun n => p.countP_eq _
  simp only [e]
theorem sorted_eq : ∀ {l m : List Nat}, l.Pairwise (· < ·) → m.Pairwise (· < ·) → (∀ x, x ∈ l ↔ x ∈ m) → l = m
  | [], [], _, _, _ => rfl
  | [], b :: m, _, _, h => by have := (h b).mpr (by simp); simp at this
  | a :: l, [], _, _, h => by have := (h a).mp (by simp); simp at this
  | a :: l, b :: m, hl, hm, h => by
    obtain ⟨l1, l2⟩ := List.pairwise_cons.mp hl
    obtain ⟨m1, m2⟩ := List.pairwise_cons.mp hm
    have e : a = b := by
      have ha := (h a).mp (by simp)
      have hb := (h b).mpr (by simp)
      rcases List.mem_cons.mp ha with ha | ha
      · exact ha
      · rcases List.mem_cons.mp hb with hb | hb
        · exact hb.symm
        · have := m1 a ha
          have := l1 b hb
          omega
    subst e
    refine congrArg (a :: ·) (sorted_eq l2 m2 fun x => ?_)
    constructor
    · intro hx
      have := l1 x hx
      rcases List.mem_cons.mp ((h x).mp (List.mem_cons_of_mem _ hx)) with z | z
      · omega
      · exact z
    · intro hx
      have := m1 x hx
      rcases List.mem_cons.mp ((h x).mpr (List.mem_cons_of_mem _ hx)) with z | z
      · omega
      · exact z
/-- told for all: the lengths, rising, and how often each -/
theorem Told.hist {S : List α} {Ls : List Nat} (t : Told F X S Ls) (p : S.Perm X) {ms : List Nat} (hs : ms.Pairwise (· < ·)) (hm : ∀ k, k ∈ ms ↔ k ∈ Ls) : ms.map (fun n : Nat => [(n : Int), (Ls.count n : Int)]) = histC F X := by
  have cn : ∀ n, 1 ≤ n → Ls.count n * n = X.countP fun x => perB F x n := fun n hn => (t.cnt n hn).trans (p.countP_eq _)
  have e : ms = (List.range (X.length + 1)).filter fun n => decide (0 < X.countP fun x => perB F x n) := by
    refine sorted_eq hs (List.Pairwise.filter _ List.pairwise_lt_range) fun n => ?_
    rw [hm, List.mem_filter, List.mem_range, decide_eq_true_eq]
    constructor
    · intro hn
      have h1 := t.pos n hn
      have h2 := List.count_pos_iff.mpr hn
      have h3 := cn n h1
      have h4 : 1 * n ≤ Ls.count n * n := Nat.mul_le_mul_right n h2
      have h5 : X.countP (fun x => perB F x n) ≤ X.length := List.countP_le_length
      omega
    · rintro ⟨h1, h2⟩
      have h0 : 1 ≤ n := by
        rcases Nat.eq_zero_or_pos n with z | z
        · subst z
          obtain ⟨x, _, hx⟩ := List.countP_pos_iff.mp h2
          have := (perB_iff.mp hx).1
          omega
        · exact z
      refine List.count_pos_iff.mp ?_
      rcases Nat.eq_zero_or_pos (Ls.count n) with z | z
      · have := cn n h0
        rw [z, Nat.zero_mul] at this
        omega
      · exact z
  unfold histC
  rw [← e]
  apply List.map_congr_left
  intro n hn
  have h1 := t.pos n ((hm n).mp hn)
  rw [← cn n h1, Nat.mul_div_cancel _ (by omega)]
end
/-! conjugate -/
theorem conj_itr {X : List α} {s0 s1 t0 t1 : α → α} (hs0 : ∀ x ∈ X, s0 x ∈ X) (hs1 : ∀ x ∈ X, s1 x ∈ X) (h0 : ∀ x ∈ X, t0 (s0 x) = x) (h1 : ∀ x ∈ X, t1 (s1 x) = x) {x : α} (hx : x ∈ X) :
    ∀ n, itr (fun y => t1 (t0 y)) n (s0 (itr (fun y => s1 (s0 y)) n x)) = s0 x
  | 0 => rfl
  | n + 1 => by
    have hz : itr (fun y => s1 (s0 y)) n x ∈ X := by
      clear h0 h1
      induction n with
      | zero => exact hx
      | succ n ih => exact hs1 _ (hs0 _ ih)
    have ih := conj_itr hs0 hs1 h0 h1 hx n
    rw [itr_one]
    show itr (fun y => t1 (t0 y)) n (t1 (t0 (s0 (s1 (s0 (itr (fun y => s1 (s0 y)) n x)))))) = s0 x
    rw [h0 _ (hs1 _ (hs0 _ hz)), h1 _ (hs0 _ hz)]
    exact ih
theorem histC_conj {X : List α} {s0 s1 t0 t1 : α → α} (hX : X.Nodup) (hs0 : ∀ x ∈ X, s0 x ∈ X) (hs1 : ∀ x ∈ X, s1 x ∈ X) (ht0 : ∀ x ∈ X, t0 x ∈ X) (ht1 : ∀ x ∈ X, t1 x ∈ X) (h0 : ∀ x ∈ X, t0 (s0 x) = x) (h1 : ∀ x ∈ X, t1 (s1 x) = x)
    (k0 : ∀ x ∈ X, s0 (t0 x) = x) (k1 : ∀ x ∈ X, s1 (t1 x) = x) : histC (fun y => t1 (t0 y)) X = histC (fun y => s1 (s0 y)) X := by
  have i0 : ∀ x ∈ X, ∀ y ∈ X, s0 x = s0 y → x = y := fun x hx y hy e => by rw [← h0 x hx, e, h0 y hy]
  have hp : PermOn (fun y => t1 (t0 y)) X := ⟨hX, fun x hx => ht1 _ (ht0 _ hx), fun x hx y hy e => by
    have e1 : t0 x = t0 y := by rw [← k1 _ (ht0 x hx), show t1 (t0 x) = t1 (t0 y) from e, k1 _ (ht0 y hy)]
    rw [← k0 x hx, e1, k0 y hy]⟩
  have hq : PermOn (fun y => s1 (s0 y)) X := ⟨hX, fun x hx => hs1 _ (hs0 _ hx), fun x hx y hy e => i0 x hx y hy (by rw [← h1 _ (hs0 x hx), show s1 (s0 x) = s1 (s0 y) from e, h1 _ (hs0 y hy)])⟩
  have it : ∀ n x, x ∈ X → (itr (fun y => t1 (t0 y)) n (s0 x) = s0 x ↔ itr (fun y => s1 (s0 y)) n x = x) := fun n x hx => by
    have c := conj_itr hs0 hs1 h0 h1 hx n
    constructor
    · intro e
      exact i0 _ (hq.itr_mem hx n) _ hx (hp.itr_inj n (hs0 _ (hq.itr_mem hx n)) (hs0 _ hx) (c.trans e.symm))
    · intro e
      rw [e] at c
      exact c
  have pe : ∀ n x, x ∈ X → perB (fun y => t1 (t0 y)) (s0 x) n = perB (fun y => s1 (s0 y)) x n := fun n x hx => by
    apply Bool.eq_iff_iff.mpr
    rw [perB_iff, perB_iff, it n x hx]
    constructor
    · rintro ⟨a, b, c⟩; exact ⟨a, b, fun k h1 h2 z => c k h1 h2 ((it k x hx).mpr z)⟩
    · rintro ⟨a, b, c⟩; exact ⟨a, b, fun k h1 h2 z => c k h1 h2 ((it k x hx).mp z)⟩
  have pm : (X.map s0).Perm X := sub_perm (nodup_mapOn hX i0) (fun y hy => by obtain ⟨z, hz, rfl⟩ := List.mem_map.mp hy; exact hs0 z hz) (by rw [List.length_map]; exact Nat.le_refl _)
  have ce : ∀ n, X.countP (fun x => perB (fun y => t1 (t0 y)) x n) = X.countP (fun x => perB (fun y => s1 (s0 y)) x n) := fun n => by
    rw [← pm.countP_eq, List.countP_map]
    exact List.countP_congr fun x hx => by
      show perB _ (s0 x) n = true ↔ _
      rw [pe n x hx]
  unfold histC
  simp only [ce]
end
end BT
namespace BT
open PySem PySem.Spec PyProof.Rows L2 Evl
/-! ### a dict whose keys are boards: the boards it knows -/
def keyR (r : List Int) : NestedKey := .tup (r.map NestedKey.num)
def keyB (B : List (List Int)) : NestedKey := .tup (B.map keyR)
theorem num_inj : ∀ {a b : List Int}, a.map NestedKey.num = b.map NestedKey.num → a = b
  | [], [], _ => rfl
  | [], _ :: _, h => by simp at h
  | _ :: _, [], h => by simp at h
  | x :: a, y :: b, h => by
    simp only [List.map_cons, List.cons.injEq, NestedKey.num.injEq] at h
    rw [h.1, num_inj h.2]
theorem keyR_inj {a b : List Int} (h : keyR a = keyR b) : a = b := by
  unfold keyR at h
  exact num_inj (NestedKey.tup.inj h)
theorem keyRs_inj : ∀ {a b : List (List Int)}, a.map keyR = b.map keyR → a = b
  | [], [], _ => rfl
  | [], _ :: _, h => by simp at h
  | _ :: _, [], h => by simp at h
  | x :: a, y :: b, h => by
    simp only [List.map_cons, List.cons.injEq] at h
    rw [keyR_inj h.1, keyRs_inj h.2]
theorem keyB_inj {a b : List (List Int)} (h : keyB a = keyB b) : a = b := keyRs_inj (NestedKey.tup.inj h)
theorem depth_num : ∀ r : List Int, NestedKey.depthAll (r.map NestedKey.num) = 0
  | [] => rfl
  | x :: r => by
    rw [List.map_cons, NestedKey.depthAll, depth_num r]
    rfl
theorem depth_rows : ∀ B : List (List Int), NestedKey.depthAll (B.map keyR) ≤ 1
  | [] => Nat.zero_le _
  | r :: B => by
    have h := depth_rows B
    have h2 : (keyR r).depth = 1 := by unfold keyR; rw [NestedKey.depth, depth_num]
    rw [List.map_cons, NestedKey.depthAll, h2]
    omega
theorem depth_B (B : List (List Int)) : (keyB B).depth ≤ 8 := by
  unfold keyB
  rw [NestedKey.depth]
  have := depth_rows B
  omega
/-- the dict at d, its keys and where they stand -/
def SeenO (P : Program) (w : World) (d : Addr) (xs : List (NestedKey × Addr × Value)) : HO :=
  .ext fun h => (d == sysModules) = false ∧ xs.length ≤ 100000 ∧ ∃ o es ep, h.get? d = some o ∧ o.ExactDict ∧ o.data = .dict es ep ∧ es.toList = xs.map (entryOfKey (nestedKind P w)) ∧ (xs.map (·.1)).Nodup
def KSeen (K : PySem.W.Frag) (H : Hp) (Bs : List (List (List Int))) (xs : List (NestedKey × Addr × Value)) : Prop := xs.map (·.1) = Bs.map keyB ∧ ∀ x ∈ xs, ∃ B, x.1 = keyB B ∧ BdV K B (.ref x.2.1) H
def Seen (P : Program) (w : World) (K : PySem.W.Frag) (H : Hp) (d : Addr) (Bs : List (List (List Int))) : Prop := ∃ xs, H d = some (SeenO P w d xs) ∧ KSeen K H Bs xs
/-- tuples stay -/
def ExT (H H' : Hp) : Prop := ∀ b o, H b = some o → ((∃ xs, o = .tup xs) ∨ ∃ q u, o = .frz q u) → H' b = some o
theorem ExT.of {H H' : Hp} (e : Ex H H') : ExT H H' := fun b o h _ => e b o h
theorem ExT.ext {H : Hp} {d : Addr} {φ : Heap → Prop} {o : HO} (h : H d = some (.ext φ)) : ExT H (upd H d o) := fun b q hb hq => by
  by_cases e : b = d
  · subst e
    rw [h] at hb
    cases hb
    rcases hq with ⟨_, z⟩ | ⟨_, _, z⟩ <;> cases z
  · rw [upd_ne e]; exact hb
theorem ExT.dk {H : Hp} {d : Addr} {kvs : List (Key × V)} {o : HO} (h : H d = some (.dK kvs)) : ExT H (upd H d o) := fun b q hb hq => by
  by_cases e : b = d
  · subst e
    rw [h] at hb
    cases hb
    rcases hq with ⟨_, z⟩ | ⟨_, _, z⟩ <;> cases z
  · rw [upd_ne e]; exact hb
theorem sqt_ext {K : PySem.W.Frag} {H H' : Hp} {a : Addr} {xs : List V} (e : ExT H H') (h : SqT K H a xs) : SqT K H' a xs := by
  rcases h with h | h
  · rcases h with h | ⟨o, h⟩
    · exact .inl (.inl (e _ _ h (.inl ⟨_, rfl⟩)))
    · exact .inl (.inr ⟨o, e _ _ h (.inr ⟨_, _, rfl⟩)⟩)
  · exact .inr h
theorem BdV.ext {K : PySem.W.Frag} {H H' : Hp} {B : List (List Int)} {v : V} (e : ExT H H') (h : BdV K B v H) : BdV K B v H' := by
  obtain ⟨p, vs, h1, hs, hl, hr⟩ := h
  exact ⟨p, vs, h1, sqt_ext e hs, hl, fun i u r a b => by obtain ⟨q, h2, h3⟩ := hr i u r a b; exact ⟨q, h2, sqt_ext e h3⟩⟩
theorem KSeen.ext {K : PySem.W.Frag} {H H' : Hp} {Bs : List (List (List Int))} {xs : List (NestedKey × Addr × Value)} (e : ExT H H') (h : KSeen K H Bs xs) : KSeen K H' Bs xs :=
  ⟨h.1, fun x hx => by obtain ⟨B, h1, h2⟩ := h.2 x hx; exact ⟨B, h1, h2.ext e⟩⟩
theorem Seen.up {P : Program} {w : World} {K : PySem.W.Frag} {H H' : Hp} {d : Addr} {Bs : List (List (List Int))} (e : Ex H H') (h : Seen P w K H d Bs) : Seen P w K H' d Bs := by
  obtain ⟨xs, h1, h2⟩ := h
  exact ⟨xs, e _ _ h1, h2.ext (ExT.of e)⟩
/-- another object is changed, one that is no tuple -/
theorem Seen.other {P : Program} {w : World} {K : PySem.W.Frag} {H : Hp} {d c : Addr} {o : HO} {Bs : List (List (List Int))} (hn : d ≠ c) (e : ExT H (upd H c o)) (h : Seen P w K H d Bs) : Seen P w K (upd H c o) d Bs := by
  obtain ⟨xs, h1, h2⟩ := h
  exact ⟨xs, by rw [upd_ne hn]; exact h1, h2.ext e⟩
section
variable {X : Cx} {pins : List (Addr × Obj)} {σ : L2.St} {H : Hp} {s : Shared}
theorem nums_is {h : Heap} : ∀ {r : List Int} {us : List Value}, Vals (r.map V.int) us → NestedAll h (r.map NestedKey.num) us
  | [], _, .nil => .nil
  | x :: r, _, .cons hx t => by
    obtain ⟨tk, rfl⟩ := hx
    exact .cons (.int x tk) (nums_is t)
theorem row_is (I : Inv X pins σ H s) {r : List Int} {v : V} {u : Value} (h : RwV X.K r v H) (hu : RelV v u) : NestedIs s.heap (keyR r) u := by
  obtain ⟨a, rfl, hs⟩ := h
  cases hu
  obtain ⟨its, rv, ⟨o, h1, h2, n, h3⟩, _⟩ := I.tuple hs
  exact .tup h1 h2 h3 (by simpa using nums_is rv)
theorem rows_is (I : Inv X pins σ H s) : ∀ {B : List (List Int)} {vs : List V} {us : List Value}, vs.length = B.length → (∀ (i : Nat) (u : V) (r : List Int), vs[i]? = some u → B[i]? = some r → RwV X.K r u H) → Vals vs us → NestedAll s.heap (B.map keyR) us
  | [], [], _, _, _, .nil => .nil
  | [], _ :: _, _, h, _, _ => by simp at h
  | _ :: _, [], _, h, _, _ => by simp at h
  | r :: B, v :: vs, _, h, hr, .cons hv t => .cons (row_is I (hr 0 v r rfl rfl) hv) (rows_is I (by simpa using h) (fun i u r' h1 h2 => hr (i + 1) u r' h1 h2) t)
theorem board_is (I : Inv X pins σ H s) {B : List (List Int)} {p : Addr} (h : BdV X.K B (.ref p) H) : (nestedKind X.prog X.w).is s.heap (keyB B) p := by
  obtain ⟨q, vs, e, hs, hl, hr⟩ := h
  cases e
  obtain ⟨its, rv, ⟨o, h1, h2, n, h3⟩, _⟩ := I.tuple hs
  exact ⟨.tup h1 h2 h3 (by simpa using rows_is I hl hr rv), depth_B B⟩
theorem seen_at (I : Inv X pins σ H s) {d : Addr} {Bs : List (List (List Int))} {xs : List (NestedKey × Addr × Value)} (h1 : H d = some (SeenO X.prog X.w d xs)) (h2 : KSeen X.K H Bs xs) : (d == sysModules) = false ∧ xs.length ≤ 100000 ∧ s.heap.DictOfH (nestedKind X.prog X.w) d xs := by
  obtain ⟨⟨hd, hl, o, es, ep, e1, e2, e3, e4, e5⟩, _⟩ := I.hok d _ h1
  exact ⟨hd, hl, o, es, ep, e1, e2, e3, e4, fun x hx => by obtain ⟨B, hB, hv⟩ := h2.2 x hx; rw [hB]; exact board_is I hv, e5⟩
theorem seen_mem {K : PySem.W.Frag} {Bs : List (List (List Int))} {xs : List (NestedKey × Addr × Value)} (h : KSeen K H Bs xs) (B : List (List Int)) : (atKey xs (keyB B)).isSome = decide (B ∈ Bs) := by
  have h1 := h.1
  clear h
  induction xs generalizing Bs with
  | nil =>
    cases Bs with
    | nil => rfl
    | cons C Bs => simp at h1
  | cons x xs ih =>
    cases Bs with
    | nil => simp at h1
    | cons C Bs =>
      simp only [List.map_cons, List.cons.injEq] at h1
      have ih := ih h1.2
      unfold atKey at ih ⊢
      rw [List.find?_cons]
      by_cases e : C = B
      · subst e
        rw [h1.1]
        simp
      · have e2 : ¬ x.1 = keyB B := fun z => e (keyB_inj (h1.1.symm.trans z))
        rw [decide_eq_false e2]
        show (Option.map _ (List.find? _ xs)).isSome = _
        rw [ih]
        have e4 : ¬ B = C := fun z => e z.symm
        by_cases e3 : B ∈ Bs <;> simp [e3, e4]
/-- board not in seen -/
def rNotInB (P : Program) (w : World) (K : PySem.W.Frag) : R2 := fun x y H Q => ∃ (B : List (List Int)) (d : Addr) (Bs : List (List (List Int))), y = .ref d ∧ BdV K B x H ∧ Seen P w K H d Bs ∧ Q (.bl (!decide (B ∈ Bs))) H
theorem op_notInB {P : Program} {w : World} {K : PySem.W.Frag} (hP : X.prog = P) (hw : X.w = w) (hK : X.K = K) (hu : X.A.units + 64 < cLine) : OpR X (compareOp .NotIn) (rNotInB P w K) := by
  subst hP hw hK
  intro pins s σ H x y v u Q I rx ry h
  obtain ⟨B, d, Bs, rfl, hB, ⟨xs, h1, h2⟩, q⟩ := h
  obtain ⟨p, _, rfl, _⟩ := id hB
  cases rx
  cases ry
  obtain ⟨hd, hl, dd⟩ := seen_at I h1 h2
  refine wpAny_notIn_heap (show X.A.units + 1 + 8 < cLine by omega) (board_is I hB) hd dd ?_
  rw [seen_mem h2]
  exact ⟨.bl (!decide (B ∈ Bs)), H, I.tok _, rfl, q⟩
/-- seen[board] = True, board new -/
def sPutB (P : Program) (w : World) (K : PySem.W.Frag) (td ty tv : TE) : TS := fun D σ H => tv σ H fun v H1 => td σ H1 fun x H2 => ty σ H2 fun y H3 => ∃ (B : List (List Int)) (d : Addr) (Bs : List (List (List Int))), v = .bl true ∧ x = .ref d ∧ BdV K B y H3 ∧ Seen P w K H3 d Bs ∧ B ∉ Bs ∧ Bs.length < 100000 ∧
  ∀ o, ExT H3 (upd H3 d o) → Seen P w K (upd H3 d o) d (Bs ++ [B]) → D.nx σ (upd H3 d o)
theorem ps_putB {P : Program} {w : World} {K : PySem.W.Frag} {o i value : Expr} {pos pos' : Pos} {td ty tv : TE} (hP : X.prog = P) (hw : X.w = w) (hK : X.K = K) (hu : X.A.units + 64 < cLine) (ho : PE X o td) (hi : PE X i ty) (hv : PE X value tv) (hs : swapsWith value (some (.Subscript o i pos')) pos.line X.env = pure false) :
    PS X (.Assign [.Subscript o i pos'] value pos) (sPutB P w K td ty tv) := by
  subst hP hw hK
  refine ⟨fun pins s σ H D I h => ?_⟩
  refine wpAny_Assign_Subscript (thn (hv.run pins s σ H _ I h) fun r s1 ⟨v, H1, I1, rv, q1⟩ => thn (ho.run pins s1 σ H1 _ I1 q1) fun u s2 ⟨x, H2, I2, rx, q2⟩ => thn (hi.run pins s2 σ H2 _ I2 q2) fun iv s3 ⟨y, H3, I3, ry, B, d, Bs, ev, ex, hB, ⟨xs, h1, h2⟩, hn, hl, q3⟩ => ?_) hs
  subst ev ex
  cases rv
  cases rx
  obtain ⟨p, _, rfl, _⟩ := id hB
  cases ry
  obtain ⟨hd, hl2, dd⟩ := seen_at I3 h1 h2
  have hnone : atKey xs (keyB B) = none := by
    have := seen_mem h2 B
    rw [decide_eq_false hn] at this
    exact Option.isNone_iff_eq_none.mp (by cases hc : atKey xs (keyB B) <;> simp_all)
  have hlen : xs.length = Bs.length := by have := congrArg List.length h2.1; simpa using this
  have hz : (16777216 : Nat) ≤ sizeLine := by rw [sizeLine_eq]; exact Nat.le_refl _
  refine wpAny_setItem_heap (hsz := by omega) (show X.A.units + 1 + 8 < cLine by omega) (board_is I3 hB) dd fun h' dd' hsb => ?_
  rw [storedH_new hnone] at dd'
  obtain ⟨q, es, ep, g1, g2, g3, g4, _, g5⟩ := dd'
  have hx : ExT H3 (upd H3 d (SeenO X.prog X.w d (xs ++ [(keyB B, p, Value.bool true)]))) := ExT.ext h1
  refine ⟨σ, _, d_write I3 (by rw [h1]; exact True.intro) hsb ⟨q, g1⟩ ?_, q3 (SeenO X.prog X.w d (xs ++ [(keyB B, p, Value.bool true)])) hx ⟨_, upd_same, ?_, fun x hx2 => ?_⟩⟩
  · refine ⟨⟨hd, by rw [List.length_append]; show xs.length + 1 ≤ 100000; omega, q, es, ep, g1, g2, g3, g4, g5⟩, ⟨q, g1⟩, ?_⟩
    rintro a b ⟨k1, k2, o, es, ep, k3, k4⟩ k
    exact ⟨k1, k2, o, es, ep, k o k3, k4⟩
  · rw [List.map_append, List.map_append, h2.1]
    rfl
  · rcases List.mem_append.mp hx2 with hx2 | hx2
    · obtain ⟨C, c1, c2⟩ := h2.2 x hx2
      exact ⟨C, c1, c2.ext hx⟩
    · rw [List.mem_singleton.mp hx2]
      exact ⟨B, rfl, hB.ext hx⟩
/-- {} -/
def tNewB (P : Program) (w : World) (K : PySem.W.Frag) : TE := fun _ H Q => ∀ p, H p = none → ∀ o, Seen P w K (upd H p o) p [] → Q (.ref p) (upd H p o)
theorem pe_newB {P : Program} {w : World} {K : PySem.W.Frag} {pos : Pos} (hP : X.prog = P) (hw : X.w = w) : PE X (.Dict [] [] pos) (tNewB P w K) := by
  subst hP hw
  refine ⟨fun pins s σ H Q I h => ?_⟩
  have hg : (s.heap.push { cls := .type "dict", data := .dict #[] }).get? s.heap.objs.size = some { cls := .type "dict", data := .dict #[] } := Heap.get?_push_size _ rfl
  refine wpAny_Dict_empty ⟨.ref s.heap.objs.size, _, I.laid (a := s.heap.objs.size) (o := SeenO X.prog X.w s.heap.objs.size []) (t' := s.toks) (fun _ _ q => Heap.get?_push_of_some _ q) (Nat.le_refl _) ?_, rfl, h _ (I.hok.fresh (Nat.le_refl _)) _ ⟨[], upd_same, rfl, fun x hx => nomatch hx⟩⟩
  refine ⟨⟨beq_eq_false_iff_ne.mpr (Ne.symm (Nat.ne_of_lt I.big)), Nat.zero_le _, _, #[], 0, hg, ⟨rfl, rfl, rfl⟩, rfl, rfl, List.nodup_nil⟩, ⟨_, hg⟩, ?_⟩
  rintro a b ⟨k1, k2, o, es, ep, k3, k4⟩ k
  exact ⟨k1, k2, o, es, ep, k o k3, k4⟩
end
section
variable {P : Program} {w : World} {K : PySem.W.Frag} {σ : L2.St} {H : Hp} {ta tb te : TE} {x : V} {D : Ends} {tz : TS} {B : List (List Int)} {Bs : List (List (List Int))} {d : Addr}
theorem go_newB {i : Nat} (k : ∀ p H1, H p = none → Ex H H1 → Seen P w K H1 p [] → Go tz D (σ.set i (some (.ref p))) H1) : Go (tSeq (tAsg (tNewB P w K) (gName i)) tz) D σ H :=
  fun H1 e p hp o hs => k p _ (fresh_back e hp) (e.trans (Ex.new hp)) hs _ (Ex.refl _)
theorem rv_notInB (hB : BdV K B x H) (hs : Seen P w K H d Bs) : RV (rNotInB P w K) x (.ref d) H (.bl (!decide (B ∈ Bs))) := fun H1 e Q q => ⟨B, d, Bs, rfl, hB.up e, hs.up e, q H1 (Ex.refl H1)⟩
theorem go_putB (ha : Ev ta σ H (.ref d)) (hb : Ev tb σ H x) (hv : Ev te σ H (.bl true)) (hB : BdV K B x H) (hs : Seen P w K H d Bs) (hn : B ∉ Bs) (hl : Bs.length < 100000)
    (k : ∀ H1 o, Ex H H1 → ExT H1 (upd H1 d o) → Seen P w K (upd H1 d o) d (Bs ++ [B]) → Go tz D σ (upd H1 d o)) : Go (tSeq (sPutB P w K ta tb te) tz) D σ H :=
  fun H1 e => hv H1 e _ fun H2 e2 => ha H2 (e.trans e2) _ fun H3 e3 => hb H3 ((e.trans e2).trans e3) _ fun H4 e4 => ⟨B, d, Bs, rfl, rfl, hB.up (((e.trans e2).trans e3).trans e4), hs.up (((e.trans e2).trans e3).trans e4), hn, hl, fun o hx hs2 => k H4 o (((e.trans e2).trans e3).trans e4) hx hs2 _ (Ex.refl _)⟩
end
end BT
namespace BT
open PySem PySem.Spec PyProof.Rows L2 Evl
/-! ### set(xs) of a list of ints, sorted -/
abbrev emptyS (w : World) : Obj := { cls := .type "set", dict := none, data := .set #[] 0 (.fresh 0 0 (!w.params.followText "set-order")) }
section
variable {P : Program} {w : World} {A : Around} {E : Value → Shared → Prop} {s : Shared}
set_option maxHeartbeats 3200000 in
theorem call_setL {l : Addr} {its : Array Value} (ns : List Int) {Q : Value → Shared → Prop} (hA : A.handled = none) (hL : s.heap.IsList l its) (hI : IntsAre its.toList ns) (hz : ns.length + 1 < scanBound)
    (q : ∀ (h2 : Heap) (tk n : Nat), SetR w h2 s.heap.objs.size (fun j => decide (j ∈ ns)) n → n ≤ ns.length → (∀ b o, s.heap.get? b = some o → h2.get? b = some o) → Q (.ref s.heap.objs.size) { s with heap := h2, toks := tk }) :
    wpAny (model P w) A (call (.type "set") [.ref l]) Q E s := by
  have hsize : its.size = ns.length := by
    have := IntsAre.length hI
    rwa [Array.length_toList] at this
  obtain ⟨c, tl, hmro⟩ := F.called_set.mro
  have hmade := F.called_set.made
  have hsub := F.called_set.sub
  have hnt := F.called_set.notType
  have hcc := F.called_set.canCreate
  have htc := F.typeCall_set_1 (.ref l)
  refine wpAny_call (codeAny_of_tree ?_)
  show wpAny _ _ (callAny (.type "set") _) _ _ _
  refine wpAny_pure ⟨Code.quiet_builtin _ (by decide +kernel), codeAny_builtin F.entry_type_call ?_⟩
  rw [Around.under_plain (weight_type_call_type "set" [.ref l] []) rfl]
  repeat (any_goals (first | assumption | wp_step))
  refine codeAny_mono (code_set_led1 (.ref l) (E := E) (Q₁ := fun r s1 => r = .ref s.heap.objs.size ∧ s1 = { s with heap := s.heap.push (emptyS w) }) ⟨rfl, rfl⟩) fun r s1 hr => ?_
  cases r with
  | error e => exact hr
  | ok fl =>
    cases fl with
    | ret v =>
      obtain ⟨rfl, rfl⟩ := hr
      have hset : (s.heap.push (emptyS w)).get? s.heap.objs.size = some (emptyS w) := Heap.get?_push_size _ rfl
      have hty : Shared.TypeIs { s with heap := s.heap.push (emptyS w) } (.ref s.heap.objs.size) "set" := ⟨_, hset, rfl⟩
      have hin := F.called_set.init.lookup
      have hbd := F.called_set.init.bind (.ref s.heap.objs.size)
      repeat (any_goals (first | assumption | wp_step))
      refine codeAny_mono (codeAny_call_builtin (R := wants (fun r s2 => r = .none ∧ ∃ h2 tk n, s2 = { s with heap := h2, toks := tk } ∧ SetR w h2 s.heap.objs.size (fun j => decide (j ∈ ns)) n ∧ n ≤ ns.length ∧ ∀ b o, s.heap.get? b = some o → h2.get? b = some o) E)
        F.called_set.init.plain F.entry_set_init (check_set_init_1 hty ?_)) fun r2 s2 hr2 => ?_
      · obtain ⟨⟨lc, ld, ldat, lsl⟩, hl0, hl1, lk, hl2⟩ := hL
        simp only at hl1 hl2
        subst hl1; subst hl2
        have hl3 : (s.heap.push (emptyS w)).get? l = some { cls := .type "list", dict := ld, data := .seq its lk, slots := lsl } := Heap.get?_push_of_some _ hl0
        have hL2 : (s.heap.push (emptyS w)).IsList l its := ⟨_, hl3, rfl, lk, rfl⟩
        have n1 := F.sub_list_set
        have n2 := F.sub_list_frozenset
        have n3 : (Value.type "list" == Value.type "dict") = false := by decide
        unfold Builtin.«set.__init__» noKeywords Builtin.Frozenset.updateFrom
        generalize hpi : pyIter = pi
        wp_walk
        subst hpi
        refine wpAny_pyIter_list hL2 ?_
        refine wpAny_bind (wpAny_runValue ?_)
        have hlt : l < s.heap.objs.size := Heap.lt_size hl0
        have hit : l ≠ (s.heap.push (emptyS w)).objs.size := by
          rw [Heap.size_push]
          exact Nat.ne_of_lt (Nat.lt_succ_of_lt hlt)
        have hfp : s.heap.objs.size ∉ [(s.heap.push (emptyS w)).objs.size, l] := fun z => by
          rcases List.mem_cons.mp z with z | z
          · rw [Heap.size_push] at z
            exact absurd z (Nat.ne_of_lt (Nat.lt_succ_self _))
          · exact absurd (List.mem_singleton.mp z).symm (Nat.ne_of_lt hlt)
        refine set_update_ints ((Walks.list (show A.in1.in1.in1.handled = none by simp [hA]) _ l hit its).toS) s.heap.objs.size hfp ns hsize hz (fun i v hv => ?_) (its.size - 0) 0 _ (by omega) (Nat.zero_le _)
          ⟨⟨_, Heap.get?_push_size _ rfl, rfl, rfl⟩, (hL2.push _)⟩ ⟨0, Nat.le_refl 0, setR_new_at (Heap.get?_push_of_some _ hset)⟩ (fun s3 n hm hn hS => ?_)
        · have hi : i < ns.length := by rw [← hsize]; exact (Array.getElem?_eq_some_iff.mp hv).1
          obtain ⟨t, e⟩ := PyProof.Rows.IntsAre.int_at hI i v (by rw [Array.getElem?_toList]; exact hv)
          refine ⟨ns[i], t, List.getElem?_eq_getElem hi, e.trans ?_⟩
          rw [List.getD_eq_getElem?_getD, List.getElem?_eq_getElem hi]
          rfl
        · obtain ⟨h3, g3, d3, t3, o3⟩ := s3
          obtain rfl : g3 = s.gens := hm.gens
          obtain rfl : d3 = s.drawn := hm.drawn
          obtain rfl : o3 = s.os := hm.os
          show wpAny _ _ _ _ _ _
          refine wpAny_pure ?_
          show wpAny _ _ (ret Value.none) _ _ _
          refine wpAny_pure ⟨rfl, h3, t3, n, rfl, hS, by rw [← hsize]; exact hn, fun b o e => ?_⟩
          have hb := Heap.lt_size e
          refine hm.heap b o (fun z => ?_) (Heap.get?_push_of_some _ (Heap.get?_push_of_some _ e))
          rcases List.mem_cons.mp z with z | z
          · exact absurd z (Nat.ne_of_lt hb)
          · have z := List.mem_singleton.mp z
            rw [Heap.size_push] at z
            exact absurd z (Nat.ne_of_lt (Nat.lt_succ_of_lt hb))
      · cases r2 with
        | error e => exact hr2
        | ok fl2 =>
          cases fl2 with
          | ret v =>
            obtain ⟨rfl, h2, tk, n, rfl, hS, hn, hk⟩ := hr2
            repeat (any_goals (first | assumption | wp_step))
            exact q _ _ _ hS hn hk
          | _ => exact hr2.elim
    | _ => exact hr.elim
end
theorem setR_list {w : World} {h : Heap} {a : Addr} {S : Int → Bool} {n : Nat} (R : SetR w h a S n) : ∃ L : List Int, L.Nodup ∧ L.length = n ∧ ∀ k, k ∈ L ↔ S k = true := by
  obtain ⟨o, es, ep, t, _, _, _, _, nd, hm, _, _, hn, _⟩ := R
  exact ⟨es.toList.map keyOf, nd, by rw [List.length_map, Array.length_toList]; exact hn, fun k => (hm k).symm⟩
section
variable {X : Cx}
def rSetL (w : World) (K : PySem.W.Frag) : List V → Hp → VK → Prop := fun xs H Q => ∃ (l : Addr) (ns : List Int), xs = [V.ref l] ∧ SqL K H l (ns.map V.int) ∧ ns.length ≤ 1000 ∧
  ∀ (p : Addr) (n : Nat), H p = none → (∃ L : List Int, L.Nodup ∧ L.length = n ∧ ∀ k, k ∈ L ↔ k ∈ ns) → Q (.ref p) (upd H p (SetO w p (fun j => decide (j ∈ ns)) n))
theorem cr_setLI {w : World} {K : PySem.W.Frag} (hw : X.w = w) (hK : X.K = K) (hc : X.calm = true) : CallR X (.type "set") (rSetL w K) := by
  subst hw hK
  intro pins s σ H xs us Q I r h
  obtain ⟨l, ns, rfl, hq, hn, q⟩ := h
  rw [Vals.ref1 r]
  obtain ⟨its, rv, pl, _⟩ := I.list hq
  refine call_setL ns (I.ok.hd hc) pl.isList (by simpa using rv.ints) (by unfold scanBound; omega) fun h2 tk n hS _ hk => ?_
  have hfr : H s.heap.objs.size = none := I.hok.fresh (Nat.le_refl _)
  obtain ⟨L, l1, l2, l3⟩ := setR_list hS
  exact ⟨.ref s.heap.objs.size, _, I.laid (a := s.heap.objs.size) (o := SetO X.w s.heap.objs.size (fun j => decide (j ∈ ns)) n) (t' := tk) hk (Nat.le_refl _) (setO_new hS), rfl, q _ n hfr ⟨L, l1, l2, fun k => by rw [l3]; simp⟩⟩
theorem cr_sortedSetK {w : World} (hw : X.w = w) (hc : X.calm = true) : CallR X (.builtin "sorted") (rSortedSet w) := hw ▸ cr_sortedSet hc
end
end BT
namespace BT
open PySem PySem.Spec PyProof.Rows L2 Evl
/-! ### all boards of a size (plain) -/
section
variable {β : Type}
def tupsL (xs : List β) : Nat → List (List β)
  | 0 => [[]]
  | n + 1 => (tupsL xs n).flatMap fun t => xs.map fun x => t ++ [x]
theorem mem_tupsL {xs : List β} : ∀ {n : Nat} {t : List β}, t ∈ tupsL xs n ↔ t.length = n ∧ ∀ y ∈ t, y ∈ xs
  | 0, t => by
    unfold tupsL
    rw [List.mem_singleton]
    constructor
    · rintro rfl; exact ⟨rfl, fun y h => nomatch h⟩
    · rintro ⟨h, _⟩; exact List.length_eq_zero_iff.mp h
  | n + 1, t => by
    unfold tupsL
    rw [List.mem_flatMap]
    constructor
    · rintro ⟨s, hs, h⟩
      obtain ⟨x, hx, rfl⟩ := List.mem_map.mp h
      obtain ⟨h1, h2⟩ := mem_tupsL.mp hs
      refine ⟨by rw [List.length_append, h1]; rfl, fun y hy => ?_⟩
      rcases List.mem_append.mp hy with hy | hy
      · exact h2 y hy
      · rw [List.mem_singleton.mp hy]; exact hx
    · rintro ⟨h1, h2⟩
      have hne : t ≠ [] := fun z => by rw [z] at h1; cases h1
      refine ⟨t.dropLast, mem_tupsL.mpr ⟨by rw [List.length_dropLast, h1]; rfl, fun y hy => h2 y ((List.dropLast_sublist t).subset hy)⟩, List.mem_map.mpr ⟨t.getLast hne, h2 _ (List.getLast_mem hne), List.dropLast_concat_getLast hne⟩⟩
theorem nodup_tupsL {xs : List β} (hx : xs.Nodup) : ∀ n, (tupsL xs n).Nodup
  | 0 => by unfold tupsL; simp
  | n + 1 => by
    have ih := nodup_tupsL hx n
    unfold tupsL
    rw [List.Nodup, List.pairwise_flatMap]
    refine ⟨fun t _ => ?_, ih.imp fun {s t} hst => ?_⟩
    · rw [List.pairwise_map]
      exact hx.imp fun {a b} hab z => hab (by simpa using z)
    · intro x hx y hy e
      obtain ⟨a, _, rfl⟩ := List.mem_map.mp hx
      obtain ⟨b, _, rfl⟩ := List.mem_map.mp hy
      exact hst (List.append_inj_left' e rfl)
theorem len_tupsL {xs : List β} : ∀ n, (tupsL xs n).length = xs.length ^ n
  | 0 => rfl
  | n + 1 => by
    unfold tupsL
    rw [List.length_flatMap]
    simp only [List.length_map]
    rw [List.map_const', List.sum_replicate_nat, len_tupsL n, Nat.pow_succ]
end
def allB (c h w : Nat) : List (List (List Int)) := tupsL (tupsL (rng c) w) h
theorem nodup_allB (c h w : Nat) : (allB c h w).Nodup := nodup_tupsL (nodup_tupsL (nodup_rng c) w) h
theorem len_allB (c h w : Nat) : (allB c h w).length = c ^ (w * h) := by
  unfold allB
  rw [len_tupsL, len_tupsL, len_rng, Nat.pow_mul]
theorem mem_allB {c h w : Nat} {B : List (List Int)} : B ∈ allB c h w ↔ B.length = h ∧ ∀ r ∈ B, r.length = w ∧ ∀ x ∈ r, 0 ≤ x ∧ x < (c : Int) := by
  unfold allB
  rw [mem_tupsL]
  refine and_congr Iff.rfl (forall_congr' fun r => forall_congr' fun _ => ?_)
  rw [mem_tupsL]
  exact and_congr Iff.rfl (forall_congr' fun x => forall_congr' fun _ => mem_rng)
def fnB (B : List (List Int)) (y x : Int) : Int := at0 (B.getD y.toNat []) x
theorem mk_allB {c h w : Nat} {f : Int → Int → Int} (hf : Bnd h w (c : Int) f) : mk h w f ∈ allB c h w := by
  refine mem_allB.mpr ⟨len_mk _ _ _, fun r hr => ?_⟩
  unfold mk at hr
  obtain ⟨i, hi, rfl⟩ := List.mem_map.mp hr
  have hi := List.mem_range.mp hi
  refine ⟨len_rowOf _ _, fun x hx => ?_⟩
  unfold rowOf at hx
  obtain ⟨j, hj, rfl⟩ := List.mem_map.mp hx
  have hj := List.mem_range.mp hj
  exact hf _ _ (by omega) (by omega) (by omega) (by omega)
theorem allB_mk {c h w : Nat} {B : List (List Int)} (hB : B ∈ allB c h w) : Bnd h w (c : Int) (fnB B) ∧ B = mk h w (fnB B) := by
  obtain ⟨hl, hr⟩ := mem_allB.mp hB
  refine ⟨fun y x y0 y1 x0 x1 => ?_, ?_⟩
  · have hy : y.toNat < B.length := by omega
    unfold fnB
    rw [List.getD_eq_getElem?_getD, List.getElem?_eq_getElem hy]
    obtain ⟨h1, h2⟩ := hr _ (List.getElem_mem hy)
    exact h2 _ (at0_mem x0 (by show x < (B[y.toNat].length : Int); omega))
  · apply List.ext_getElem?
    intro i
    by_cases hi : i < h
    · rw [mk_get hi, List.getElem?_eq_getElem (by omega)]
      obtain ⟨h1, _⟩ := hr _ (List.getElem_mem (show i < B.length by omega))
      refine congrArg some (ext_at0 (by rw [len_rowOf]; exact h1) fun x x0 x1 => ?_)
      rw [at0_rowOf x0 (by omega)]
      unfold fnB
      rw [Int.toNat_natCast, List.getD_eq_getElem?_getD, List.getElem?_eq_getElem (by omega)]
      rfl
    · rw [List.getElem?_eq_none (by omega), List.getElem?_eq_none (by rw [len_mk]; omega)]
theorem fnB_mk {hh ww : Nat} {f : Int → Int → Int} : EqOn hh ww (fnB (mk (2 * hh) (2 * ww) f)) f := fun y x y0 y1 x0 x1 => by
  obtain ⟨i, rfl⟩ := Int.eq_ofNat_of_zero_le y0
  unfold fnB
  rw [Int.toNat_natCast, List.getD_eq_getElem?_getD, mk_get (show i < 2 * hh by omega)]
  exact at0_rowOf x0 (by omega)
/-- a step, on boards -/
def stB (hh ww : Nat) (c : Int) (r : List Int) (m : Int) (B : List (List Int)) : List (List Int) := mk (2 * hh) (2 * ww) (stepF (2 * (hh : Int)) (2 * (ww : Int)) c r m (fnB B))
theorem stB_mk {hh ww : Nat} {c m : Int} {r : List Int} {f : Int → Int → Int} : stB hh ww c r m (mk (2 * hh) (2 * ww) f) = mk (2 * hh) (2 * ww) (stepF (2 * (hh : Int)) (2 * (ww : Int)) c r m f) := mk_eq (step_congr fnB_mk)
def ringF (hh ww : Nat) (c : Int) (r : List Int) (B : List (List Int)) : List (List Int) := stB hh ww c r 1 (stB hh ww c r 0 B)
theorem ringF_mk {hh ww : Nat} {c : Int} {r : List Int} {f : Int → Int → Int} : ringF hh ww c r (mk (2 * hh) (2 * ww) f) = mk (2 * hh) (2 * ww) (runF (2 * (hh : Int)) (2 * (ww : Int)) c r 0 2 f) := by
  unfold ringF
  rw [stB_mk, stB_mk]
  rfl
section
variable {hh ww n : Nat} {c m : Int} {r : List Int}
theorem stB_mem (hn : (n : Int) = c) (c0 : 2 ≤ c) {B : List (List Int)} : stB hh ww c r m B ∈ allB n (2 * hh) (2 * ww) := by
  refine mk_allB ?_
  rw [hn]
  exact bnd_step c0
theorem stB_back (hn : (n : Int) = c) (c0 : 2 ≤ c) (c1 : c ≤ 3) (hr : IsRule (n4 c) r) {B : List (List Int)} (hB : B ∈ allB n (2 * hh) (2 * ww)) : stB hh ww c (backL r) m (stB hh ww c r m B) = B := by
  obtain ⟨hb, e⟩ := allB_mk hB
  rw [hn] at hb
  rw [e, stB_mk, stB_mk]
  exact mk_eq (step_back c0 c1 hr hb)
theorem stB_forth (hn : (n : Int) = c) (c0 : 2 ≤ c) (c1 : c ≤ 3) (hr : IsRule (n4 c) r) {B : List (List Int)} (hB : B ∈ allB n (2 * hh) (2 * ww)) : stB hh ww c r m (stB hh ww c (backL r) m B) = B := by
  have := stB_back (m := m) hn c0 c1 (isRule_back hr) hB
  rwa [back_back hr] at this
theorem ring_perm (hn : (n : Int) = c) (c0 : 2 ≤ c) (c1 : c ≤ 3) (hr : IsRule (n4 c) r) : PermOn (ringF hh ww c r) (allB n (2 * hh) (2 * ww)) :=
  ⟨nodup_allB _ _ _, fun x _ => stB_mem hn c0, fun x hx y hy e => by
    have e1 : stB hh ww c r 0 x = stB hh ww c r 0 y := by
      rw [← stB_back (m := 1) hn c0 c1 hr (stB_mem (r := r) (m := 0) (B := x) hn c0), show stB hh ww c r 1 (stB hh ww c r 0 x) = stB hh ww c r 1 (stB hh ww c r 0 y) from e, stB_back (m := 1) hn c0 c1 hr (stB_mem (r := r) (m := 0) (B := y) hn c0)]
    rw [← stB_back (m := 0) hn c0 c1 hr hx, e1, stB_back (m := 0) hn c0 c1 hr hy]⟩
/-- by the rule back there are as many rings -/
theorem hist_back (hn : (n : Int) = c) (c0 : 2 ≤ c) (c1 : c ≤ 3) (hr : IsRule (n4 c) r) : histC (ringF hh ww c (backL r)) (allB n (2 * hh) (2 * ww)) = histC (ringF hh ww c r) (allB n (2 * hh) (2 * ww)) :=
  histC_conj (s0 := stB hh ww c r 0) (s1 := stB hh ww c r 1) (t0 := stB hh ww c (backL r) 0) (t1 := stB hh ww c (backL r) 1) (nodup_allB _ _ _) (fun _ _ => stB_mem hn c0) (fun _ _ => stB_mem hn c0) (fun _ _ => stB_mem hn c0) (fun _ _ => stB_mem hn c0)
    (fun x hx => stB_back hn c0 c1 hr hx) (fun x hx => stB_back hn c0 c1 hr hx) (fun x hx => stB_forth hn c0 c1 hr hx) (fun x hx => stB_forth hn c0 c1 hr hx)
end
/-- the law's boards, by their numbers -/
def digF (c w n : Nat) (y x : Int) : Int := ((n / c ^ (y.toNat * w + x.toNat) % c : Nat) : Int)
def lawB (c h w : Nat) : List (List (List Int)) := (List.range (c ^ (w * h))).map fun n => mk h w (digF c w n)
theorem digs_inj {c : Nat} (hc : 0 < c) : ∀ (k n m : Nat), n < c ^ k → m < c ^ k → (∀ j, j < k → n / c ^ j % c = m / c ^ j % c) → n = m
  | 0, n, m, h1, h2, _ => by
    rw [Nat.pow_zero] at h1 h2
    omega
  | k + 1, n, m, h1, h2, h => by
    have h0 := h 0 (by omega)
    rw [Nat.pow_zero, Nat.div_one, Nat.div_one] at h0
    rw [Nat.pow_succ] at h1 h2
    have q := digs_inj hc k (n / c) (m / c) ((Nat.div_lt_iff_lt_mul hc).mpr h1) ((Nat.div_lt_iff_lt_mul hc).mpr h2) fun j hj => by
      have := h (j + 1) (by omega)
      rw [Nat.pow_succ, Nat.mul_comm, ← Nat.div_div_eq_div_mul, ← Nat.div_div_eq_div_mul] at this
      exact this
    rw [← Nat.div_add_mod n c, ← Nat.div_add_mod m c, q, h0]
theorem digF_rng {c w n : Nat} (hc : 0 < c) (y x : Int) : 0 ≤ digF c w n y x ∧ digF c w n y x < (c : Int) := by
  unfold digF
  have := Nat.mod_lt (n / c ^ (y.toNat * w + x.toNat)) hc
  omega
theorem lawB_perm {c h w : Nat} (hc : 0 < c) (hw : 0 < w) : (lawB c h w).Perm (allB c h w) := by
  refine sub_perm ?_ (fun B hB => ?_) (by rw [len_allB]; unfold lawB; simp)
  · unfold lawB
    refine nodup_mapOn List.nodup_range fun n hn m hm e => ?_
    have hn := List.mem_range.mp hn
    have hm := List.mem_range.mp hm
    refine digs_inj hc (w * h) n m hn hm fun j hj => ?_
    have hd : j / w < h := by
      rw [Nat.div_lt_iff_lt_mul hw, Nat.mul_comm]
      exact hj
    have hmo : j % w < w := Nat.mod_lt _ hw
    have := mk_inj e (y := ((j / w : Nat) : Int)) (x := ((j % w : Nat) : Int)) (Int.natCast_nonneg _) (Int.ofNat_lt.mpr hd) (Int.natCast_nonneg _) (Int.ofNat_lt.mpr hmo)
    unfold digF at this
    rw [Int.toNat_natCast, Int.toNat_natCast, Nat.mul_comm (j / w) w, Nat.div_add_mod] at this
    exact Int.ofNat.inj this
  · unfold lawB at hB
    obtain ⟨n, _, rfl⟩ := List.mem_map.mp hB
    exact mk_allB fun y x _ _ _ _ => digF_rng hc y x
end BT
namespace BT
open PySem PySem.Spec PyProof.Rows L2 Evl
/-! ### lists of boards -/
def BssV (K : PySem.W.Frag) (Bs : List (List (List Int))) (us : List V) (H : Hp) : Prop := us.length = Bs.length ∧ ∀ (i : Nat) (u : V) (B : List (List Int)), us[i]? = some u → Bs[i]? = some B → BdV K B u H
theorem BssV.ext {K : PySem.W.Frag} {Bs : List (List (List Int))} {us : List V} {H H' : Hp} (e : ExT H H') (h : BssV K Bs us H) : BssV K Bs us H' := ⟨h.1, fun i u B h1 h2 => (h.2 i u B h1 h2).ext e⟩
theorem BssV.up {K : PySem.W.Frag} {Bs : List (List (List Int))} {us : List V} {H H' : Hp} (e : Ex H H') (h : BssV K Bs us H) : BssV K Bs us H' := h.ext (ExT.of e)
theorem BssV.imm {K : PySem.W.Frag} {Bs : List (List (List Int))} {us : List V} {H H' : Hp} (e : ExI H H') (h : BssV K Bs us H) : BssV K Bs us H' := ⟨h.1, fun i u B h1 h2 => bd_imm B u H H' e (h.2 i u B h1 h2)⟩
theorem snoc_at {α β : Type} {P : α → β → Prop} {us : List α} {Bs : List β} {u : α} {B : β} (hl : us.length = Bs.length) (h : ∀ (i : Nat) (u : α) (B : β), us[i]? = some u → Bs[i]? = some B → P u B) (hr : P u B) : ∀ (i : Nat) (x : α) (y : β), (us ++ [u])[i]? = some x → (Bs ++ [B])[i]? = some y → P x y := by
  intro i x y h1 h2
  rcases Nat.lt_or_ge i us.length with hi | hi
  · rw [List.getElem?_append_left hi] at h1
    rw [List.getElem?_append_left (by rw [← hl]; exact hi)] at h2
    exact h i x y h1 h2
  · rw [List.getElem?_append_right hi] at h1
    rw [List.getElem?_append_right (by rw [← hl]; exact hi), ← hl] at h2
    have h0 : i - us.length = 0 := by
      have := (List.getElem?_eq_some_iff.mp h1).1
      simp only [List.length_singleton] at this
      omega
    rw [h0] at h1 h2
    rw [← Option.some.inj h1, ← Option.some.inj h2]
    exact hr
theorem BssV.snoc {K : PySem.W.Frag} {Bs : List (List (List Int))} {us : List V} {H : Hp} {B : List (List Int)} {u : V} (h : BssV K Bs us H) (hr : BdV K B u H) : BssV K (Bs ++ [B]) (us ++ [u]) H :=
  ⟨by rw [List.length_append, List.length_append, h.1]; rfl, snoc_at (P := fun u B => BdV K B u H) h.1 h.2 hr⟩
def BsV (K : PySem.W.Frag) (Bs : List (List (List Int))) (v : V) (H : Hp) : Prop := ∃ p us, v = .ref p ∧ H p = some (.lst us) ∧ BssV K Bs us H
theorem BsV.up {K : PySem.W.Frag} {Bs : List (List (List Int))} {v : V} {H H' : Hp} (e : Ex H H') (h : BsV K Bs v H) : BsV K Bs v H' := by
  obtain ⟨p, us, h1, h2, h3⟩ := h
  exact ⟨p, us, h1, e _ _ h2, h3.up e⟩
section
variable {K : PySem.W.Frag} {σ : L2.St} {H H' : Hp} {ta tb te tl : TE} {P : V → Hp → Prop} {D : Ends} {tu tz : TS}
/-- t + (x,) -/
theorem ep_catT {a : Addr} {xs ys : List V} (ha : Ev ta σ H (.ref a)) (hs : SqT K H a xs) (hb : EvU tb σ H ys) (hy : ys ≠ []) (hl : xs.length + ys.length ≤ 100000) : EvP (tOp (rCatA K) ta tb) σ H (fun v H1 => ∃ p, v = .ref p ∧ SqT K H1 p (xs ++ ys)) :=
  fun H1 e Q q => ha H1 e _ fun H2 e2 => hb H2 (e.trans e2) _ fun p H3 _ e3 hp => ⟨a, p, xs, ys, rfl, rfl, ex_t ((e.trans e2).trans e3) hs, st_of hp, sz_of hl, fun hx => q _ H3 (e2.trans e3) ⟨p, rfl, by rw [hx]; exact st_of hp⟩, fun _ z => absurd z hy,
    fun _ _ r hr => q _ _ ((e2.trans e3).trans (Ex.new hr)) ⟨r, rfl, st_of upd_same⟩⟩
theorem ep_rowC {r : List Int} {c : Int} {v : V} (hv : RwV K r v H) (ha : Ev ta σ H v) (hb : Ev tb σ H (.int c)) (hl : r.length ≤ 1000) : EvP (tOp (rCatA K) ta (tTup (tCons tb tNil))) σ H (RwV K (r ++ [c])) := by
  obtain ⟨a, rfl, hs⟩ := hv
  refine ep_weak (ep_catT (ys := [.int c]) ha hs (eu_tup (ea_cons hb ea_nil) (by show (1 : Nat) ≤ 100000; decide)) (by simp) (by rw [List.length_map]; show r.length + 1 ≤ 100000; omega)) fun v H1 _ ⟨p, h1, h2⟩ => ⟨p, h1, ?_⟩
  rw [List.map_append]
  exact h2
theorem ep_boardC {B : List (List Int)} {r : List Int} {v : V} {a : Addr} (hv : BdV K B v H) (ha : Ev ta σ H v) (hr : SqT K H a (r.map V.int)) (hb : Ev tb σ H (.ref a)) (hl : B.length ≤ 1000) : EvP (tOp (rCatA K) ta (tTup (tCons tb tNil))) σ H (BdV K (B ++ [r])) := by
  obtain ⟨p, vs, rfl, hs, hlen, hrs⟩ := hv
  refine ep_weak (ep_catT (ys := [.ref a]) ha hs (eu_tup (ea_cons hb ea_nil) (by show (1 : Nat) ≤ 100000; decide)) (by simp) (by show vs.length + 1 ≤ 100000; omega)) fun v H1 e ⟨q, h1, h2⟩ => ⟨q, vs ++ [.ref a], h1, h2, by rw [List.length_append, List.length_append, hlen]; rfl, ?_⟩
  exact snoc_at (P := fun u r => RwV K r u H1) hlen (fun i u r h3 h4 => rw_imm r u _ _ (ExI.of e) (hrs i u r h3 h4)) ⟨a, rfl, ex_t e hr⟩
/-- [x] -/
theorem ep_lst1 (m : ∀ v H H', ExI H H' → P v H → P v H') (h : EvP te σ H P) : EvP (tLst (tCons te tNil)) σ H (fun v H1 => ∃ p x, v = .ref p ∧ H1 p = some (.lst [x]) ∧ P x H1) :=
  fun H1 e Q q => h H1 e _ fun v H2 e2 hv => ⟨sz_of (by show (1 : Nat) ≤ 100000; decide), fun p hp => q _ _ (e2.trans (Ex.new hp)) ⟨p, v, rfl, upd_same, m v _ _ (ExI.of (Ex.new hp)) hv⟩⟩
theorem ep_LP {n : Nat} {P : Nat → V → Hp → Prop} (h : EvLP te σ H n P) : EvP te σ H (fun v H1 => ∃ p vs, v = .ref p ∧ H1 p = some (.lst vs) ∧ vs.length = n ∧ ∀ (i : Nat) (v : V), vs[i]? = some v → P i v H1) :=
  fun H1 e Q q => h H1 e Q fun p H2 vs _ e2 h1 h2 h3 => q _ H2 e2 ⟨p, vs, rfl, h1, h2, h3⟩
/-- over a list that a call hands back -/
theorem go_forC {j : Nat} (h : EvP tl σ H P) (k : ∀ v H1, Ex H H1 → P v H1 → Go (tSeq (tFor (iList K (tC v)) (gName j) tu) tz) D σ H1) : Go (tSeq (tFor (iList K tl) (gName j) tu) tz) D σ H := fun H1 e => h H1 e _ fun v H2 e2 p => k v H2 (e.trans e2) p H2 (Ex.refl H2)
/-- for as the last statement, over a list -/
theorem gl_forLs {a : Addr} {xs : List V} {j : Nat} (h : Ev tl σ H (.ref a)) (hx : SqL K H a xs) (Pv : Nat → L2.St → Hp → Prop) (h0 : ∀ H1, Ex H H1 → Pv 0 σ H1) (hl : ∀ i σ' H', i ≤ xs.length → Pv i σ' H' → SqL K H' a xs)
    (hs : ∀ i x σ' H', xs[i]? = some x → Pv i σ' H' → Go tu { D with nx := Pv (i + 1), ct := Pv (i + 1), bk := D.nx } (σ'.set j (some x)) H') (hd : ∀ σ' H', Pv xs.length σ' H' → GoN D σ' H') : Go (tFor (iList K tl) (gName j) tu) D σ H :=
  fun H1 e => s_forL (h.mono e) (ex_l e hx) Pv (fun H2 e2 => h0 H2 (e.trans e2)) hl (fun i x σ' H' hi p => (hs i x σ' H' hi p).at) (fun σ' H' p => hd σ' H' p H' (Ex.refl H'))
end
theorem tupsL_part {β : Type} {xs : List β} {ts : List (List β)} {i j : Nat} {t : List β} {x : β} (ht : ts[i]? = some t) (hx : xs[j]? = some x) :
    (ts.take i).flatMap (fun t => xs.map fun x => t ++ [x]) ++ (xs.take (j + 1)).map (fun x => t ++ [x]) = (ts.take i).flatMap (fun t => xs.map fun x => t ++ [x]) ++ (xs.take j).map (fun x => t ++ [x]) ++ [t ++ [x]] := by
  rw [List.take_add_one, hx, List.map_append, ← List.append_assoc]
  rfl
theorem tupsL_next {β : Type} {xs : List β} {ts : List (List β)} {i : Nat} {t : List β} (ht : ts[i]? = some t) :
    (ts.take (i + 1)).flatMap (fun t => xs.map fun x => t ++ [x]) = (ts.take i).flatMap (fun t => xs.map fun x => t ++ [x]) ++ (xs.take xs.length).map (fun x => t ++ [x]) := by
  rw [List.take_add_one, ht, List.flatMap_append, List.take_length]
  simp
/-- all that stands besides two objects -/
def ExB (d e : Addr) (H H' : Hp) : Prop := ∀ b o, b ≠ d → b ≠ e → H b = some o → H' b = some o
theorem ExB.of {d e : Addr} {H H' : Hp} (x : Ex H H') : ExB d e H H' := fun b o _ _ h => x b o h
theorem ExB.trans {d e : Addr} {H H1 H2 : Hp} (a : ExB d e H H1) (b : ExB d e H1 H2) : ExB d e H H2 := fun c o n1 n2 h => b c o n1 n2 (a c o n1 n2 h)
theorem ExB.ex {d e : Addr} {H0 H H' : Hp} (x : Ex H0 H) (y : ExB d e H H') (hd : H0 d = none) (he : H0 e = none) : Ex H0 H' := fun b o h => y b o (ne_of_none h hd) (ne_of_none h he) (x b o h)
theorem ExB.t {d e : Addr} {H H' : Hp} {φ : Heap → Prop} {u : HO} (y : ExB d e H H') (hd : H d = some (.ext φ)) (he : H e = some u) (hu : ∀ xs, u ≠ .tup xs) (hu2 : ∀ o v, u ≠ .frz o v) : ExT H H' := fun b o h ho => y b o (fun z => by
    subst z; rw [hd] at h; cases h; rcases ho with ⟨_, z⟩ | ⟨_, _, z⟩ <;> cases z) (fun z => by
    subst z; rw [he] at h; cases h; rcases ho with ⟨xs, z⟩ | ⟨o, v, z⟩; exact hu xs z; exact hu2 o v z) h
end BT
namespace BT
open PySem PySem.Spec PyProof.Rows L2 Evl
/-! ### lists of things, each of a kind of its own -/
def AllP (Ps : List (V → Hp → Prop)) (vs : List V) (H : Hp) : Prop := vs.length = Ps.length ∧ ∀ (i : Nat) (v : V) (P : V → Hp → Prop), vs[i]? = some v → Ps[i]? = some P → P v H
def LsP (Ps : List (V → Hp → Prop)) (v : V) (H : Hp) : Prop := ∃ p vs, v = .ref p ∧ H p = some (.lst vs) ∧ AllP Ps vs H
section
variable {K : PySem.W.Frag} {σ : L2.St} {H H' : Hp} {ta tb te tl : TE} {tr : TA} {P : V → Hp → Prop} {Ps : List (V → Hp → Prop)}
theorem AllP.up {vs : List V} (hm : ∀ P ∈ Ps, Mono P) (e : Ex H H') (h : AllP Ps vs H) : AllP Ps vs H' := ⟨h.1, fun i v P a b => hm P (List.mem_of_getElem? b) v H H' e (h.2 i v P a b)⟩
theorem lsP_mono (hm : ∀ P ∈ Ps, Mono P) : Mono (LsP Ps) := fun v H H' e ⟨p, vs, h1, h2, h3⟩ => ⟨p, vs, h1, e _ _ h2, h3.up hm e⟩
theorem eap_nilP : EvAP tNil σ H (AllP []) := fun H1 e Q q => q [] H1 (Ex.refl H1) ⟨rfl, fun i v P h => by simp at h⟩
theorem eap_consP (m : Mono P) (h : EvP te σ H P) (hr : EvAP tr σ H (AllP Ps)) : EvAP (tCons te tr) σ H (AllP (P :: Ps)) :=
  eap_cons m h hr fun v vs H1 _ hv hvs => ⟨by rw [List.length_cons, List.length_cons, hvs.1], fun i u Q a b => by
    cases i with
    | zero => cases a; cases b; exact hv
    | succ i => exact hvs.2 i u Q a b⟩
theorem ep_lstP (hm : ∀ P ∈ Ps, Mono P) (h : EvAP tr σ H (AllP Ps)) (hl : Ps.length ≤ 1000) : EvP (tLst tr) σ H (LsP Ps) :=
  fun H1 e Q q => h H1 e _ fun vs H2 e2 hv => ⟨sz_of (by rw [hv.1]; omega), fun p hp => q _ _ (e2.trans (Ex.new hp)) ⟨p, vs, rfl, upd_same, hv.up hm (Ex.new hp)⟩⟩
theorem ep_ixP {i : Int} (ha : EvP ta σ H (LsP Ps)) (hb : ∀ H1, Ex H H1 → Ev tb σ H1 (.int i)) (hm : Mono P) (h0 : 0 ≤ i) (hP : Ps[i.toNat]? = some P) : EvP (tOp (rIxL K) ta tb) σ H P :=
  fun H1 e Q q => ha H1 e _ fun v H2 e2 ⟨p, vs, hv, h2, hA⟩ => hb H2 (e.trans e2) H2 (Ex.refl _) _ fun H3 e3 => by
    have hlt : i.toNat < vs.length := by rw [hA.1]; exact (List.getElem?_eq_some_iff.mp hP).1
    have hg : vs[i.toNat]? = some vs[i.toNat] := List.getElem?_eq_getElem hlt
    have hx : atI vs i = some vs[i.toNat] := by
      have := atI_nat hg
      rwa [show ((i.toNat : Nat) : Int) = i by omega] at this
    exact ⟨p, vs, i, _, hv, rfl, ex_l e3 (sq_of h2), hx, q _ H3 (e2.trans e3) (hm _ _ _ e3 (hA.2 _ _ _ hg hP))⟩
theorem ep_pair {a b : Int} (ha : Ev ta σ H (.int a)) (hb : Ev tb σ H (.int b)) : EvP (tTup (tCons ta (tCons tb tNil))) σ H (RwV K [a, b]) :=
  ep_U (eu_tup (vs := [.int a, .int b]) (ea_cons ha (ea_cons hb ea_nil)) (by show (2 : Nat) ≤ 100000; decide)) fun t H1 _ ht => ⟨t, rfl, st_of ht⟩
end
end BT
namespace BT
open PySem PySem.Spec PyProof.Rows L2 Evl
/-! ### a dict of how often -/
def srtL (Ls : List Nat) : List Nat := (List.range (Ls.sum + 1)).filter fun n => decide (n ∈ Ls)
theorem le_sum : ∀ {Ls : List Nat} {n : Nat}, n ∈ Ls → n ≤ Ls.sum
  | a :: l, n, h => by
    rw [List.sum_cons]
    rcases List.mem_cons.mp h with h | h
    · omega
    · have := le_sum h
      omega
theorem srtL_sorted (Ls : List Nat) : (srtL Ls).Pairwise (· < ·) := List.Pairwise.filter _ List.pairwise_lt_range
theorem mem_srtL {Ls : List Nat} {n : Nat} : n ∈ srtL Ls ↔ n ∈ Ls := by
  unfold srtL
  rw [List.mem_filter, List.mem_range, decide_eq_true_eq]
  exact ⟨fun h => h.2, fun h => ⟨by have := le_sum h; omega, h⟩⟩
theorem srtL_nodup (Ls : List Nat) : (srtL Ls).Nodup := (srtL_sorted Ls).imp fun h => Nat.ne_of_lt h
def tri : Nat → Nat
  | 0 => 0
  | n + 1 => tri n + (n + 1)
theorem tri_mono {a b : Nat} (h : a ≤ b) : tri a ≤ tri b := by
  induction b with
  | zero => rw [Nat.le_zero.mp h]; exact Nat.le_refl _
  | succ b ih =>
    rcases Nat.lt_or_ge a (b + 1) with z | z
    · exact Nat.le_trans (ih (by omega)) (Nat.le_add_right _ _)
    · rw [show a = b + 1 by omega]; exact Nat.le_refl _
theorem tri_le : ∀ {l : List Nat} {b : Nat}, l.Pairwise (· < ·) → (∀ x ∈ l, b < x) → l.length * b + tri l.length ≤ l.sum
  | [], b, _, _ => by simp [tri]
  | a :: l, b, h, hb => by
    obtain ⟨h1, h2⟩ := List.pairwise_cons.mp h
    have ha := hb a (by simp)
    have ih := tri_le (b := b + 1) h2 fun x hx => by have := h1 x hx; omega
    rw [Nat.mul_add] at ih
    rw [List.sum_cons, List.length_cons, tri, Nat.add_mul]
    omega
theorem sum_sub : ∀ {m l : List Nat}, m.Nodup → (∀ x ∈ m, x ∈ l) → m.sum ≤ l.sum
  | [], _, _, _ => by simp
  | a :: m, l, nd, hs => by
    obtain ⟨n1, n2⟩ := List.nodup_cons.mp nd
    have p := List.perm_cons_erase (hs a (by simp))
    have e := p.sum_nat
    rw [List.sum_cons] at e
    have ih := sum_sub (l := l.erase a) n2 fun x hx => (List.mem_erase_of_ne (fun z => n1 (by rw [← z]; exact hx))).mpr (hs x (List.mem_cons_of_mem _ hx))
    rw [List.sum_cons, e]
    omega
theorem srtL_few {Ls : List Nat} (hp : ∀ n ∈ Ls, 1 ≤ n) (hs : Ls.sum ≤ 1000) : (srtL Ls).length < 64 := by
  rcases Nat.lt_or_ge (srtL Ls).length 64 with z | z
  · exact z
  · have h1 := tri_le (b := 0) (srtL_sorted Ls) fun x hx => hp x (mem_srtL.mp hx)
    have h2 := sum_sub (srtL_nodup Ls) fun x hx => mem_srtL.mp hx
    have h3 := tri_mono z
    have h4 : tri 64 = 2080 := by decide
    omega
def keyN (n : Nat) : Key := Sum.inl (n : Int)
theorem keyN_inj {a b : Nat} (h : keyN a = keyN b) : a = b := by
  unfold keyN at h
  have := Sum.inl.inj h
  omega
structure LenD (kvs : List (Key × V)) (Ls : List Nat) : Prop where
  val : ∀ n : Nat, valV kvs (keyN n) = if Ls.count n = 0 then none else some (.int (Ls.count n : Int))
  keys : ∃ ks : List Nat, kvs.map (·.1) = ks.map keyN ∧ ks.Nodup ∧ ∀ k, k ∈ ks ↔ k ∈ Ls
theorem LenD.nil : LenD [] [] := ⟨fun n => rfl, [], rfl, List.nodup_nil, fun k => Iff.rfl⟩
theorem LenD.len {kvs : List (Key × V)} {Ls : List Nat} (h : LenD kvs Ls) : kvs.length ≤ Ls.length := by
  obtain ⟨ks, e, nd, hm⟩ := h.keys
  have h1 := congrArg List.length e
  rw [List.length_map, List.length_map] at h1
  rw [h1]
  exact len_sub nd fun x hx => (hm x).mp hx
theorem LenD.put {kvs : List (Key × V)} {Ls : List Nat} (h : LenD kvs Ls) (k : Nat) : LenD (putK kvs (keyN k) (.int ((Ls.count k : Int) + 1))) (Ls ++ [k]) := by
  refine ⟨fun n => ?_, ?_⟩
  · rw [valV_put, List.count_append]
    by_cases e : n = k
    · subst e
      rw [if_pos rfl, if_neg (by simp)]
      simp
    · rw [if_neg fun z => e (keyN_inj z), h.val]
      have e2 : ¬ k = n := fun z => e z.symm
      simp [List.count_singleton, e2]
  · obtain ⟨ks, e, nd, hm⟩ := h.keys
    by_cases hk : k ∈ Ls
    · refine ⟨ks, ?_, nd, fun x => ?_⟩
      · have hs : (kvs.any fun kv => decide (kv.1 = keyN k)) = true := by
          rw [valV_any, h.val, if_neg (by have := List.count_pos_iff.mpr hk; omega)]
          rfl
        unfold putK
        rw [if_pos hs]
        rw [List.map_map, ← e]
        apply List.map_congr_left
        intro p _
        show (if p.1 = keyN k then (p.1, _) else p).1 = p.1
        split <;> rfl
      · rw [hm, List.mem_append, List.mem_singleton]
        exact ⟨.inl, fun z => z.elim id fun z => z ▸ hk⟩
    · refine ⟨ks ++ [k], ?_, List.nodup_append.mpr ⟨nd, by simp, fun a ha b hb z => ?_⟩, fun x => ?_⟩
      · rw [putK_new _ (by rw [h.val, if_pos (List.count_eq_zero.mpr hk)]), List.map_append, List.map_append, e]
        rfl
      · rw [List.mem_singleton.mp hb] at z
        exact hk ((hm k).mp (z ▸ ha))
      · rw [List.mem_append, List.mem_append, hm]
theorem perm_srt {ks Ls : List Nat} (nd : ks.Nodup) (hm : ∀ k, k ∈ ks ↔ k ∈ Ls) : ks.Perm (srtL Ls) := by
  have h1 : ∀ x ∈ ks, x ∈ srtL Ls := fun x hx => mem_srtL.mpr ((hm x).mp hx)
  exact sub_perm nd h1 (len_sub (srtL_nodup Ls) fun x hx => (hm x).mpr (mem_srtL.mp hx))
theorem ints_eq : ∀ {ys ms : List Int}, ys.Pairwise (· < ·) → ms.Pairwise (· < ·) → (∀ x, x ∈ ys ↔ x ∈ ms) → ys = ms
  | [], [], _, _, _ => rfl
  | [], b :: m, _, _, h => by have := (h b).mpr (by simp); simp at this
  | a :: l, [], _, _, h => by have := (h a).mp (by simp); simp at this
  | a :: l, b :: m, hl, hm, h => by
    obtain ⟨l1, l2⟩ := List.pairwise_cons.mp hl
    obtain ⟨m1, m2⟩ := List.pairwise_cons.mp hm
    have e : a = b := by
      rcases List.mem_cons.mp ((h a).mp (by simp)) with ha | ha
      · exact ha
      · rcases List.mem_cons.mp ((h b).mpr (by simp)) with hb | hb
        · exact hb.symm
        · have := m1 a ha
          have := l1 b hb
          omega
    subst e
    refine congrArg (a :: ·) (ints_eq l2 m2 fun x => ?_)
    constructor
    · intro hx
      have := l1 x hx
      rcases List.mem_cons.mp ((h x).mp (List.mem_cons_of_mem _ hx)) with z | z
      · omega
      · exact z
    · intro hx
      have := m1 x hx
      rcases List.mem_cons.mp ((h x).mpr (List.mem_cons_of_mem _ hx)) with z | z
      · omega
      · exact z
def srtI (Ls : List Nat) : List Int := (srtL Ls).map fun n : Nat => (n : Int)
theorem srtI_sorted (Ls : List Nat) : (srtI Ls).Pairwise (· < ·) := by
  unfold srtI
  rw [List.pairwise_map]
  exact (srtL_sorted Ls).imp fun h => Int.ofNat_lt.mpr h
theorem mem_cast {l : List Nat} {k : Int} : k ∈ l.map (fun n : Nat => (n : Int)) ↔ ∃ n : Nat, n ∈ l ∧ (n : Int) = k := List.mem_map
theorem nodup_lt {ys : List Int} (h : ys.Pairwise (· ≤ ·)) (nd : ys.Nodup) : ys.Pairwise (· < ·) := by
  refine (h.and nd).imp fun {a b} z => ?_
  have h1 := z.1
  have h2 : a ≠ b := z.2
  omega
section
variable {K : PySem.W.Frag} {w : World} {σ : L2.St} {H H' : Hp} {ta tb te td tx ty tv : TE} {x y z v : V} {D : Ends} {tz : TS} {d : Addr} {kvs : List (Key × V)} {Ls : List Nat}
theorem dget_up {H H' : Hp} {kvs : List (Key × V)} (e : Ex H H') (h : H d = some (.dK kvs)) (n : Nat) : DGet H' d (.int (n : Int)) (valV kvs (keyN n)) := DGet.k (k := keyN n) (e _ _ h)
/-- d.get(n, 0) -/
theorem ev_get0 (ha : Ev td σ H (.ref d)) (hy : Ev ty σ H (.int ((n : Nat) : Int))) (hx : Ev tx σ H (.int 0)) (h : H d = some (.dK kvs)) (hL : LenD kvs Ls) : Ev (tDGet2 td ty tx) σ H (.int (Ls.count n : Int)) :=
  fun H1 e Q q => ha H1 e _ fun H2 e2 => ⟨d, rfl, .inl ⟨kvs, .inl ((e.trans e2) _ _ h)⟩, hy H2 (e.trans e2) _ fun H3 e3 => hx H3 ((e.trans e2).trans e3) _ fun H4 e4 => ⟨_, dget_up (((e.trans e2).trans e3).trans e4) h n, by
    rw [hL.val]
    have q' := q H4 ((e2.trans e3).trans e4)
    split
    · rename_i h0
      rw [h0] at q'
      exact q'
    · exact q'⟩⟩
theorem ev_dget (ha : Ev td σ H (.ref d)) (hy : Ev ty σ H (.int ((n : Nat) : Int))) (h : H d = some (.dK kvs)) (hL : LenD kvs Ls) (hn : n ∈ Ls) : Ev (tDGet td ty) σ H (.int (Ls.count n : Int)) :=
  fun H1 e Q q => ha H1 e _ fun H2 e2 => hy H2 (e.trans e2) _ fun H3 e3 => ⟨d, .int (Ls.count n : Int), rfl, by
    have g := dget_up ((e.trans e2).trans e3) h n
    rw [hL.val, if_neg (by have := List.count_pos_iff.mpr hn; omega)] at g
    exact g, q H3 (e2.trans e3)⟩
/-- d[n] = v -/
theorem gl_dput (ha : Ev td σ H (.ref d)) (hy : Ev ty σ H (.int ((n : Nat) : Int))) (hv : Ev tv σ H v) (h : H d = some (.dK kvs)) (hl : kvs.length < 100000) (k : ∀ H1, Ex H H1 → GoN D σ (upd H1 d (.dK (putK kvs (keyN n) v)))) : Go (sDPut td ty tv) D σ H :=
  fun H1 e => hv H1 e _ fun H2 e2 => ha H2 (e.trans e2) _ fun H3 e3 => hy H3 ((e.trans e2).trans e3) _ fun H4 e4 => ⟨d, _, rfl, DPut.k (k := keyN n) ((((e.trans e2).trans e3).trans e4) _ _ h) (sz_lt hl), k H4 (((e.trans e2).trans e3).trans e4) _ (Ex.refl _)⟩
theorem go_newD {i : Nat} (k : ∀ p H1, H p = none → Ex H H1 → H1 p = some (.dK []) → Go tz D (σ.set i (some (.ref p))) H1) : Go (tSeq (tAsg tDNewK (gName i)) tz) D σ H :=
  fun H1 e p hp => k p _ (fresh_back e hp) (e.trans (Ex.new hp)) upd_same _ (Ex.refl _)
def rSrtD : List V → Hp → VK → Prop := fun xs H Q => ∃ (a : Addr) (kvs : List (Key × V)) (ks : List Int), xs = [.ref a] ∧ Rd H a (.dK kvs) ∧ kvs.map (·.1) = ks.map Sum.inl ∧ ks.length < 64 ∧
    ∀ (ys : List Int) (p : Addr), ys.Perm ks → ys.Pairwise (· ≤ ·) → H p = none → Q (.ref p) (upd H p (.lst (ys.map V.int)))
theorem cr_srtD {X : Cx} (hc : X.calm = true) : CallR X (.builtin "sorted") rSrtD := call_sortedDI hc
theorem el_srtD (ha : Ev td σ H (.ref d)) (h : H d = some (.dK kvs)) (hL : LenD kvs Ls) (hp : ∀ n ∈ Ls, 1 ≤ n) (hs : Ls.sum ≤ 1000) : EvL (tCB rSrtD (tCons td tNil)) σ H ((srtI Ls).map V.int) := by
  obtain ⟨ks, e, nd, hm⟩ := hL.keys
  have pm := perm_srt nd hm
  refine fun H1 e1 Q q => ha H1 e1 _ fun H2 e2 => ⟨d, kvs, ks.map fun n : Nat => (n : Int), rfl, .inl ((e1.trans e2) _ _ h), ?_, ?_, fun ys p py hy hfr => ?_⟩
  · rw [e, List.map_map]
    rfl
  · rw [List.length_map, pm.length_eq]
    exact srtL_few hp hs
  · have nd2 : (ks.map fun n : Nat => (n : Int)).Nodup := by
      rw [List.Nodup, List.pairwise_map]
      exact nd.imp fun {a b} hab z => hab (by omega)
    have : ys = srtI Ls := by
      refine ints_eq (nodup_lt hy (py.nodup_iff.mpr nd2)) (srtI_sorted Ls) fun x => ?_
      rw [py.mem_iff]
      unfold srtI
      rw [mem_cast, mem_cast]
      exact exists_congr fun n => and_congr_left fun _ => pm.mem_iff
    rw [this]
    exact q p _ (fresh_back e2 hfr) (e2.trans (Ex.new hfr)) upd_same
theorem el_srtS {l : Addr} (ha : Ev ta σ H (.ref l)) (h : SqL K H l ((Ls.map fun n : Nat => (n : Int)).map V.int)) (hz : Ls.length ≤ 1000) (hp : ∀ n ∈ Ls, 1 ≤ n) (hs : Ls.sum ≤ 1000) : EvL (tCB (rSortedSet w) (tCons (tCB (rSetL w K) (tCons ta tNil)) tNil)) σ H ((srtI Ls).map V.int) := by
  refine fun H1 e1 Q q => ha H1 e1 _ fun H2 e2 => ⟨l, Ls.map fun n : Nat => (n : Int), rfl, ex_l (e1.trans e2) h, by rw [List.length_map]; exact hz, fun p n hfr ⟨L, nd, hln, hm⟩ => ?_⟩
  have hmi : ∀ x, x ∈ srtI Ls ↔ x ∈ Ls.map (fun n : Nat => (n : Int)) := fun x => by
    unfold srtI
    rw [mem_cast, mem_cast]
    exact exists_congr fun n => and_congr_left fun _ => mem_srtL
  have hlen : n ≤ (srtL Ls).length := by
    have := len_sub (m := srtI Ls) nd fun x hx => (hmi x).mpr ((hm x).mp hx)
    unfold srtI at this
    rw [List.length_map] at this
    omega
  refine ⟨p, _, n, rfl, upd_same, by have := srtL_few hp hs; omega, fun ns b hlt hmem _ hfb => ?_⟩
  have : ns = srtI Ls := ints_eq hlt (srtI_sorted Ls) fun x => by rw [hmem, hmi]; simp
  rw [this]
  have e3 : Ex H2 (upd H2 p (SetO w p (fun j => decide (j ∈ Ls.map fun n : Nat => (n : Int))) n)) := Ex.new hfr
  exact q b _ (fresh_back (e2.trans e3) hfb) ((e2.trans e3).trans (Ex.new hfb)) upd_same
end
end BT
namespace BT
open PySem PySem.Spec PyProof.Rows L2 Evl
theorem op_catAK {X : Cx} {K : PySem.W.Frag} (h : X.K = K) : OpR X (binaryOp .Add) (rCatA K) := h ▸ op_catA
theorem mt_lcountK {X : Cx} {K : PySem.W.Frag} (h : X.K = K) : MtR X "list.count" (rCntI K) := h ▸ mt_lcount
theorem srtI_get {Ls : List Nat} {i : Nat} {x : V} (h : ((srtI Ls).map V.int)[i]? = some x) : ∃ n : Nat, (srtL Ls)[i]? = some n ∧ x = .int (n : Int) := by
  unfold srtI at h
  rw [List.map_map, List.getElem?_map] at h
  obtain ⟨n, h1, rfl⟩ := Option.map_eq_some_iff.mp h
  exact ⟨n, h1, rfl⟩
theorem pairs_lt {K : PySem.W.Frag} {H : Hp} {Ls : List Nat} {p : Addr} {vs : List V} (h : H p = some (.lst vs)) (hl : vs.length = ((srtI Ls).map V.int).length) (hv : ∀ i v, vs[i]? = some v → RwV K [(((srtL Ls).getD i 0 : Nat) : Int), (Ls.count ((srtL Ls).getD i 0) : Int)] v H) :
    LtV K ((srtL Ls).map fun n : Nat => [(n : Int), (Ls.count n : Int)]) (.ref p) H := by
  refine ⟨p, vs, rfl, sq_of h, by rw [hl]; unfold srtI; simp, fun i u r h1 h2 => ?_⟩
  have := hv i u h1
  rw [List.getElem?_map] at h2
  obtain ⟨n, h3, rfl⟩ := Option.map_eq_some_iff.mp h2
  rw [List.getD_eq_getElem?_getD, h3] at this
  exact this
theorem count_cast (n : Nat) : ∀ l : List Nat, (l.map fun n : Nat => (n : Int)).count (n : Int) = l.count n
  | [] => rfl
  | a :: l => by
    rw [List.map_cons, List.count_cons, List.count_cons, count_cast n l]
    by_cases e : a = n
    · subst e; simp
    · have e2 : ¬ (a : Int) = (n : Int) := by omega
      simp [e, e2]
/-- xs.count(n) -/
theorem ev_count {K : PySem.W.Frag} {σ : L2.St} {H : Hp} {ta tb : TE} {l : Addr} {Ls : List Nat} {n : Nat} (ha : Ev ta σ H (.ref l)) (hb : Ev tb σ H (.int (n : Int))) (h : SqL K H l ((Ls.map fun n : Nat => (n : Int)).map V.int)) : Ev (tBM K "list" (rCntI K) ta (tCons tb tNil)) σ H (.int (Ls.count n : Int)) :=
  fun H1 e Q q => ha H1 e _ fun H2 e2 => ⟨.inl ⟨rfl, _, ex_l (e.trans e2) h⟩, hb H2 (e.trans e2) _ fun H3 e3 => ⟨l, _, (n : Int), rfl, rfl, ex_l ((e.trans e2).trans e3) h, by rw [count_cast]; exact q H3 (e2.trans e3)⟩⟩
theorem len_le_sum : ∀ l : List Nat, (∀ n ∈ l, 1 ≤ n) → l.length ≤ l.sum
  | [], _ => by simp
  | b :: l, hp => by
    have := len_le_sum l fun y hy => hp y (List.mem_cons_of_mem _ hy)
    have := hp b (by simp)
    rw [List.length_cons, List.sum_cons]
    omega
end BT
namespace BT
open PySem PySem.Spec PyProof.Rows L2 Evl
theorem pe_bmK {X : Cx} {K : PySem.W.Frag} {T name id : String} {r : V → List V → Hp → VK → Prop} {o e : Expr} {es : List Expr} {to : TE} {t : TA} {apos cpos : Pos} (hK : X.K = K) (pa : PlainAttrs T) (slot : Slot T name id) (hty : typeOf (.builtin id) = pure (.type "method_descriptor")) (hm : MtR X id r) (ho : PE X o to) (ha : PA X (e :: es) t)
    (hbase : attributeBase o name X.env (eval o X.env) = eval o X.env := by rfl)
    (hfew : ((backTo cpos (starEach (e :: es) X.env)).all (fun x => !x.1) && (backToKw cpos (keywordEach [] X.env)).all (fun x => x.1.isSome) && decide ((e :: es).length + ([] : List Keyword).length + (if ([] : List Keyword).isEmpty then 0 else 1) < 30)) = true := by rfl)
    (hline : (apos.endLine == cpos.line) = true := by rfl) (hs : starEach (e :: es) X.env = (false, eval e X.env) :: starEach es X.env := by rfl) (hplain : (backTo cpos (starEach es X.env)).any (·.1) = false := by rfl) :
    PE X (.Call (.Attribute o name apos) (e :: es) [] cpos) (tBM K T r to t) := by
  subst hK
  exact pe_bm pa slot hty hm ho ha hbase hfew hline hs hplain
end BT
/-! ### the text -/
namespace BT
open PySem PySem.Spec PyProof.Rows L2 Evl
def topS (i : Nat) : Stmt := PySem.Challenge.pw_blockturn_k15_whole_all_rings.main.body.getD i (.Pass ⟨0, 0, 0, 0⟩)
abbrev s_block_of : Stmt := topS 5
theorem sc_block_of : FnScope ["number", "colours", "found", "k"] ["number", "colours"] (defScope s_block_of) := ⟨rfl, rfl, rfl, by decide +kernel, rfl, by decide +kernel, by decide +kernel⟩
abbrev s_number_of : Stmt := topS 6
theorem sc_number_of : FnScope ["block", "colours", "found", "colour"] ["block", "colours"] (defScope s_number_of) := ⟨rfl, rfl, rfl, by decide +kernel, rfl, by decide +kernel, by decide +kernel⟩
abbrev s_rule_back : Stmt := topS 7
theorem sc_rule_back : FnScope ["rule", "number", "found"] ["rule"] (defScope s_rule_back) := ⟨rfl, rfl, rfl, by decide +kernel, rfl, by decide +kernel, by decide +kernel⟩
abbrev s_done : Stmt := topS 9
theorem sc_done : FnScope ["board", "rule", "colours", "moment", "rows", "height", "width", "y", "x", "low", "right", "block", "made", "row"] ["board", "rule", "colours", "moment"] (defScope s_done) := ⟨rfl, rfl, rfl, by decide +kernel, rfl, by decide +kernel, by decide +kernel⟩
abbrev s_forward : Stmt := topS 10
theorem sc_forward : FnScope ["board", "rule", "colours", "moment", "steps", "k", "row"] ["board", "rule", "colours", "moment", "steps"] (defScope s_forward) := ⟨rfl, rfl, rfl, by decide +kernel, rfl, by decide +kernel, by decide +kernel⟩
abbrev s_all_boards : Stmt := topS 13
theorem sc_all_boards : FnScope ["colours", "width", "height", "rows", "x", "longer", "row", "colour", "boards", "y", "taller", "board"] ["colours", "width", "height"] (defScope s_all_boards) := ⟨rfl, rfl, rfl, by decide +kernel, rfl, by decide +kernel, by decide +kernel⟩
abbrev s_count_of : Stmt := topS 14
theorem sc_count_of : FnScope ["colours", "cells", "many", "k"] ["colours", "cells"] (defScope s_count_of) := ⟨rfl, rfl, rfl, by decide +kernel, rfl, by decide +kernel, by decide +kernel⟩
abbrev s_rings : Stmt := topS 15
theorem sc_rings : FnScope ["rule", "colours", "width", "height", "seen", "lengths", "board", "length", "here"] ["rule", "colours", "width", "height"] (defScope s_rings) := ⟨rfl, rfl, rfl, by decide +kernel, rfl, by decide +kernel, by decide +kernel⟩
abbrev s__law_cell_at : Stmt := topS 17
theorem sc__law_cell_at : FnScope ["script", "k"] ["script", "k"] (defScope s__law_cell_at) := ⟨rfl, rfl, rfl, by decide +kernel, rfl, by decide +kernel, by decide +kernel⟩
abbrev s__law_whole : Stmt := topS 18
theorem sc__law_whole : FnScope ["found"] ["found"] (defScope s__law_whole) := ⟨rfl, rfl, rfl, by decide +kernel, rfl, by decide +kernel, by decide +kernel⟩
abbrev s__law_rule_by : Stmt := topS 19
theorem sc__law_rule_by : FnScope ["cell", "colours", "k", "rest", "out", "a", "b"] ["cell", "colours"] (defScope s__law_rule_by) := ⟨rfl, rfl, rfl, by decide +kernel, rfl, by decide +kernel, by decide +kernel⟩
abbrev s__law_named : Stmt := topS 20
theorem sc__law_named : FnScope ["kind", "number", "bits", "three", "bit"] ["kind", "number"] (defScope s__law_named) := ⟨rfl, rfl, rfl, by decide +kernel, rfl, by decide +kernel, by decide +kernel⟩
abbrev s__law_step : Stmt := topS 21
theorem sc__law_step : FnScope ["board", "rule", "colours", "moment", "height", "width", "rows", "y", "x", "top", "left", "low", "right", "cells", "number", "colour", "made", "at", "k", "row"] ["board", "rule", "colours", "moment"] (defScope s__law_step) := ⟨rfl, rfl, rfl, by decide +kernel, rfl, by decide +kernel, by decide +kernel⟩
abbrev s__law_boards : Stmt := topS 22
theorem sc__law_boards : FnScope ["colours", "width", "height", "boards", "many", "k", "number", "rows", "rest", "y", "row", "x"] ["colours", "width", "height"] (defScope s__law_boards) := ⟨rfl, rfl, rfl, by decide +kernel, rfl, by decide +kernel, by decide +kernel⟩
abbrev s__law_rings : Stmt := topS 23
theorem sc__law_rings : FnScope ["rule", "colours", "width", "height", "seen", "lengths", "board", "length"] ["rule", "colours", "width", "height"] (defScope s__law_rings) := ⟨rfl, rfl, rfl, by decide +kernel, rfl, by decide +kernel, by decide +kernel⟩
abbrev s__law_refused : Stmt := topS 24
theorem sc__law_refused : FnScope ["rule", "colours", "width", "height", "marks", "e"] ["rule", "colours", "width", "height"] (defScope s__law_refused) := ⟨rfl, rfl, rfl, by decide +kernel, rfl, by decide +kernel, by decide +kernel⟩
abbrev s_law : Stmt := topS 25
theorem sc_law : FnScope ["script", "colours", "rule", "size", "due", "found", "pair", "cell", "few"] ["script"] (defScope s_law) := ⟨rfl, rfl, rfl, by decide +kernel, rfl, by decide +kernel, by decide +kernel⟩
structure Bl (mg : Str → Option Value) : Prop where
  ValueError_ : mg "ValueError" = none
  bool_ : mg "bool" = none
  int_ : mg "int" = none
  isinstance_ : mg "isinstance" = none
  len_ : mg "len" = none
  list_ : mg "list" = none
  range_ : mg "range" = none
  reversed_ : mg "reversed" = none
  set_ : mg "set" = none
  sorted_ : mg "sorted" = none
  sum_ : mg "sum" = none
  tuple_ : mg "tuple" = none
structure Cls (K : PySem.W.Frag) (mg : Str → Option Value) (C_BlockError C_TooLong C_TooMany : Addr) : Prop where
  BlockError : ErrAt K mg "BlockError" C_BlockError
  TooLong : ErrAt K mg "TooLong" C_TooLong
  TooMany : ErrAt K mg "TooMany" C_TooMany
  S_BlockError_TooLong : PySem.W.subIn K (.ref C_BlockError) (.ref C_TooLong) = some false
  S_BlockError_TooMany : PySem.W.subIn K (.ref C_BlockError) (.ref C_TooMany) = some false
  S_TooLong_BlockError : PySem.W.subIn K (.ref C_TooLong) (.ref C_BlockError) = some true
  S_TooLong_TooMany : PySem.W.subIn K (.ref C_TooLong) (.ref C_TooMany) = some false
  S_TooMany_BlockError : PySem.W.subIn K (.ref C_TooMany) (.ref C_BlockError) = some true
  S_TooMany_TooLong : PySem.W.subIn K (.ref C_TooMany) (.ref C_TooLong) = some false
end BT
open PySem PySem.Spec PyProof.Rows L2 Evl BT
local macro_rules | `(tactic| walk_at "le") => `(tactic| first | omega | decide | with_reducible assumption | (simp only [List.length_map, len_rowOf, len_mk, List.length_cons, List.length_nil] at *; omega))
local macro_rules | `(tactic| walk_at "sq") => `(tactic| first | assumption | exact sq_of (by assumption) | exact st_of (by assumption))
local macro_rules | `(tactic| walk_at "rv") => `(tactic| first
  | ((with_reducible show RV (rI0 _) _ _ _ _); exact rv_I0)
  | ((with_reducible show RV rEq _ _ _ _); first | exact rv_eqI | exact rv_eqS | exact rv_eqBl)
  | ((with_reducible show RV rNe _ _ _ _); first | exact rv_neI | exact rv_neS)
  | ((with_reducible show RV (rI (fun _ j => 0 < j) fun i j => V.int (i % j)) _ _ _ _); exact rv_mod (by walk_at "le"))
  | ((with_reducible show RV (rI CDiv _) _ _ _ _); exact rv_fdiv (by walk_at "le") (by walk_at "le"))
  | ((with_reducible show RV (rI CMul _) _ _ _ _); first | exact rv_mulR (by walk_at "le") (by walk_at "le") | exact rv_mulL (by walk_at "le") (by walk_at "le"))
  | ((with_reducible show RV (rI CPow _) _ _ _ _); exact rv_pow ⟨by decide, by decide, by decide⟩)
  | ((with_reducible show RV (rEqD _) _ _ _ _); first | exact rv_eqB (by assumption) (by assumption) | exact rv_eqL (by walk_at "sq") (by walk_at "sq") | exact rv_eqT (by assumption) (by assumption))
  | ((with_reducible show RV (rNeD _) _ _ _ _); first | exact rv_neB (by assumption) (by assumption) | exact rv_neL (by walk_at "sq") (by walk_at "sq") | exact rv_neT (by assumption) (by assumption)))
local macro_rules | `(tactic| walk_at "ev") => `(tactic| first
  | ((with_reducible show Ev (tVar _) _ _ _); exact ev_var rfl)
  | ((with_reducible show Ev (tC _) _ _ _); exact ev_c)
  | ((with_reducible show Ev (tCB (rLenS _) (tCons (tOp (rIxT _) _ _) tNil)) _ _ _); exact ev_wide (by walk_at "le") (by walk_at "ev") (by walk_at "ev") (by assumption))
  | ((with_reducible show Ev (tCB (rLenS _) (tCons _ tNil)) _ _ _); first | exact ev_lenM (by walk_at "ev") (by assumption) | exact ev_lenLI (by walk_at "ev") (by walk_at "sq") | exact ev_lenTI (by walk_at "ev") (by walk_at "sq") | exact ev_lenL (by walk_at "ev") (by walk_at "sq") | exact ev_lenT (by walk_at "ev") (by walk_at "sq"))
  | ((with_reducible show Ev (tOp (rIxT _) (tOp (rIxT _) _ _) _) _ _ _); exact ev_cell (by walk_at "ev") (by walk_at "ev") (by walk_at "ev") (by assumption) (by walk_at "le") (by walk_at "le") (by walk_at "le") (by walk_at "le"))
  | ((with_reducible show Ev (tOp (rIxL _) _ _) _ _ _); exact ev_ixLI (by walk_at "ev") (by walk_at "ev") (by walk_at "sq") (by walk_at "le") (by walk_at "le"))
  | ((with_reducible show Ev (tOp (rIxT _) _ _) _ _ _); exact ev_ixTI (by walk_at "ev") (by walk_at "ev") (by walk_at "sq") (by walk_at "le") (by walk_at "le"))
  | ((with_reducible show Ev (tOp _ _ _) _ _ _); exact ev_op (by walk_at "ev") (by walk_at "ev") (by walk_at "rv"))
  | ((with_reducible show Ev (tUn _ _) _ _ _); exact ev_un (by walk_at "ev") ru_neg)
  | ((with_reducible show Ev (tCall _ _ _ _) _ _ _); exact ev_call (by walk_at "ea") (by walk_at "sp"))
  | ((with_reducible show Ev (tCB (rSum _) (tCons _ tNil)) _ _ _); exact ev_sumL (by walk_at "ev") (by walk_at "sq"))
  | ((with_reducible show Ev (tCB (rSumT _) (tCons _ tNil)) _ _ _); exact ev_sumT (by walk_at "ev") (by walk_at "sq"))
  | ((with_reducible show Ev (tCB rMin2 _) _ _ _); exact ev_min2 (by walk_at "ev") (by walk_at "ev"))
  | ((with_reducible show Ev (tCB rInt1 _) _ _ _); exact ev_intB (by walk_at "ev"))
  | ((with_reducible show Ev (tNotV _) _ _ _); exact ev_notV (by walk_at "ev"))
  | ((with_reducible show Ev (tAndV _ _) _ _ _); exact ev_andV (by walk_at "ev") (by (intro _; walk_at "ev")))
  | ((with_reducible show Ev (tOrV _ _) _ _ _); exact ev_orV (by walk_at "ev") (by (intro _; walk_at "ev"))))
local macro_rules | `(tactic| walk_at "ea") => `(tactic| first
  | ((with_reducible show EvA tNil _ _ _); exact ea_nil)
  | ((with_reducible show EvA (tCons _ _) _ _ _); exact ea_cons (by walk_at "ev") (by walk_at "ea")))
local macro_rules | `(tactic| walk_at "et") => `(tactic| first
  | ((with_reducible show EvT tYes _ _ _); exact et_yes)
  | ((with_reducible show EvT (tTest _) _ _ _); exact et_test (by walk_at "ev"))
  | ((with_reducible show EvT (tB _) _ _ _); exact et_B (by walk_at "ev"))
  | ((with_reducible show EvT (tNot _) _ _ _); exact et_not (by walk_at "et"))
  | ((with_reducible show EvT (tAnd _ _) _ _ _); exact et_and (by walk_at "et") (by (intro _; walk_at "et")))
  | ((with_reducible show EvT (tOr _ _) _ _ _); exact et_or (by walk_at "et") (by (intro _; walk_at "et"))))
namespace BT
open PySem PySem.Spec PyProof.Rows L2 Evl
/-! #### _law_cell_at -/
def sp__law_cell_at (K : PySem.W.Frag) : Sp := fun vs H Q _ => ∃ (a : Addr) (ns : List Int) (k : Int), vs = [.ref a, .int k] ∧ SqL K H a (ns.map V.int) ∧ 0 ≤ k ∧ RetV (.int (at0 ns k)) H Q
theorem spv__law_cell_at {K : PySem.W.Frag} {H : Hp} {a : Addr} {ns : List Int} {k : Int} (h : SqL K H a (ns.map V.int)) (h0 : 0 ≤ k) : SpV (sp__law_cell_at K) [.ref a, .int k] H (.int (at0 ns k)) :=
  fun H1 e Q q E => ⟨a, ns, k, rfl, ex_l e h, h0, q⟩
local macro_rules | `(tactic| walk_at "sp") => `(tactic| (refine' spv__law_cell_at ?h1 ?h2; (case h1 => walk_at "sq"); (case h2 => walk_at "le")))
theorem cal__law_cell_at {P : Program} {w : World} {K : PySem.W.Frag} {mg : Str → Option Value} {base : Heap} {f : Addr} {fd : FuncData} (Bt : Bl mg) (D : DefAt K mg "_law_cell_at" s__law_cell_at ["script", "k"] f fd)  :
    CalE P w K mg base CX0 1 "_law_cell_at" ["script", "k"] (sp__law_cell_at K) := by
  refine ⟨f, fd, D.F.ok sc__law_cell_at (fun vs H Q E h => ?_) (fun cdv A outer s H vs Q E hRm h => ?_), D.g, D.F.kp, D.b⟩
  · obtain ⟨a, ns, k, rfl, _⟩ := h; rfl
  · obtain ⟨a, ns, k, rfl, hS, h0, q⟩ := h
    refine ⟨_, (pss_cons (ps_if (pt_cmpR op_lt (pv 1) (pe_callB (call_lenK (K := K) rfl) (by rfl) Bt.len_ (by decide +kernel) (pa_cons (pv 0) pa_nil)) (nomark _)) (pss_one (ps_ret (pe_ix (ix_listK (K := K) rfl) (pv 0) (pv 1) (fun _ _ => rfl)))) pss_nil)
 (pss_one (ps_ret pe_int))), Go.at ?_⟩
    refine go_when (p := k < (ns.length : Int)) (by walk_at "et") (fun hk => ?_) (fun hk => ?_)
    · exact go_ret (by walk_at "ev") q
    · refine go_ret (by walk_at "ev") (v := .int 0) ?_
      have e0 : at0 ns k = 0 := by
        unfold at0
        rw [List.getD_eq_getElem?_getD, List.getElem?_eq_none (by omega)]
        rfl
      rw [e0] at q
      exact q
/-! #### _law_named -/
def bitsN (n : Int) : List Int := [n / 8 % 2, n / 4 % 2, n / 2 % 2, n % 2]
def na1 (k : Int) (r : List Int) : List Int := if k = 0 then [at0 r 2, at0 r 0, at0 r 3, at0 r 1] else r
def na2 (k : Int) (r : List Int) : List Int := if k = 1 ∧ r.sum = 1 then r.reverse else if k = 1 ∧ at0 r 0 = at0 r 3 ∧ at0 r 1 = at0 r 2 ∧ r.sum = 2 then r.map (fun x => 1 - x) else r
def na3 (k : Int) (r : List Int) : List Int := if k = 2 ∧ r.sum ≠ 2 then (if r.sum = 3 then (r.map (fun x => 1 - x)).reverse else r.map (fun x => 1 - x)) else r
def nameN (k n : Int) : Int := let r := na3 k (na2 k (na1 k (bitsN n))); 8 * at0 r 0 + 4 * at0 r 1 + 2 * at0 r 2 + at0 r 3
theorem na1_len (k n : Int) : (na1 k (bitsN n)).length = 4 := by unfold na1; split <;> rfl
theorem na2_len (k : Int) {r : List Int} (h : r.length = 4) : (na2 k r).length = 4 := by
  unfold na2
  split
  · rw [List.length_reverse, h]
  · split
    · rw [List.length_map, h]
    · exact h
theorem na3_len (k : Int) {r : List Int} (h : r.length = 4) : (na3 k r).length = 4 := by
  unfold na3
  split
  · split
    · rw [List.length_reverse, List.length_map, h]
    · rw [List.length_map, h]
  · exact h
def sp__law_named (K : PySem.W.Frag) : Sp := fun vs H Q _ => ∃ (k n : Int), vs = [.int k, .int n] ∧ RetV (.int (nameN k n)) H Q
theorem spv__law_named {K : PySem.W.Frag} {H : Hp} {k n : Int} : SpV (sp__law_named K) [.int k, .int n] H (.int (nameN k n)) := fun H1 e Q q E => ⟨k, n, rfl, q⟩
local macro_rules | `(tactic| walk_at "sp") => `(tactic| exact spv__law_named)
theorem cal__law_named {P : Program} {w : World} {K : PySem.W.Frag} {mg : Str → Option Value} {base : Heap} {f : Addr} {fd : FuncData} (Bt : Bl mg) (D : DefAt K mg "_law_named" s__law_named ["kind", "number"] f fd)  :
    CalE P w K mg base CX0 1 "_law_named" ["kind", "number"] (sp__law_named K) := by
  refine ⟨f, fd, D.F.ok sc__law_named (fun vs H Q E h => ?_) (fun cdv A outer s H vs Q E hRm h => ?_), D.g, D.F.kp, D.b⟩
  · obtain ⟨k, n, rfl, _⟩ := h; rfl
  · obtain ⟨k, n, rfl, q⟩ := h
    refine ⟨_, (pss_cons (ps_set (i := 2) sc__law_named.nd rfl (Or.inl rfl) (pe_lst (pa_cons (pe_op op_mod (pe_op op_fdiv (pv 1) pe_int) pe_int) (pa_cons (pe_op op_mod (pe_op op_fdiv (pv 1) pe_int) pe_int) (pa_cons (pe_op op_mod (pe_op op_fdiv (pv 1) pe_int) pe_int) (pa_cons (pe_op op_mod (pv 1) pe_int) pa_nil))))))
 (pss_cut (ps_if (pt_cmpR op_eq (pv 0) pe_int (nomark _)) (pss_one (ps_set (i := 2) sc__law_named.nd rfl (Or.inl rfl) (pe_lst (pa_cons (pe_ix (ix_listK (K := K) rfl) (pv 2) pe_int (fun _ _ => rfl)) (pa_cons (pe_ix (ix_listK (K := K) rfl) (pv 2) pe_int (fun _ _ => rfl)) (pa_cons (pe_ix (ix_listK (K := K) rfl) (pv 2) pe_int (fun _ _ => rfl)) (pa_cons (pe_ix (ix_listK (K := K) rfl) (pv 2) pe_int (fun _ _ => rfl)) pa_nil))))))) pss_nil)
 (pss_cut (ps_if (PW.pt (pw_and (pt_cmpR op_eq (pv 0) pe_int (nomark _)) (pw_and1 (pt_cmpR op_eq (pe_callB (cr_sumK (K := K) rfl rfl) (by rfl) Bt.sum_ (by decide +kernel) (pa_cons (pv 2) pa_nil)) pe_int (nomark _))))) (pss_one (ps_expr (pe_bm0 PySem.F.plainAttrs_list PySem.F.slot_list_reverse PySem.F.type_list_reverse mt_reverse (pv 2)))) (pss_one (ps_if (PW.pt (pw_and (pt_cmpR op_eq (pv 0) pe_int (nomark _)) (pw_and (pt_cmpR op_eq (pe_ix (ix_listK (K := K) rfl) (pv 2) pe_int (fun _ _ => rfl)) (pe_ix (ix_listK (K := K) rfl) (pv 2) pe_int (fun _ _ => rfl)) (nomark _)) (pw_and (pt_cmpR op_eq (pe_ix (ix_listK (K := K) rfl) (pv 2) pe_int (fun _ _ => rfl)) (pe_ix (ix_listK (K := K) rfl) (pv 2) pe_int (fun _ _ => rfl)) (nomark _)) (pw_and1 (pt_cmpR op_eq (pe_callB (cr_sumK (K := K) rfl rfl) (by rfl) Bt.sum_ (by decide +kernel) (pa_cons (pv 2) pa_nil)) pe_int (nomark _))))))) (pss_one (ps_setLc (i := 2) (own := [("bit", 4)]) (g := gName 4) (by rfl) sc__law_named.nd rfl rfl (sw_true rfl rfl rfl (by decide +kernel)) (pi_listK (K := K) rfl (pv 2)) (blkOk_by (own := [("bit", 4)]) (N := ["kind", "number", "bits", "three", "bit"]) (sc := defScope s__law_named) (by decide +kernel)) (fun _ _ _ _ _ => pg_name (i := 4) sc__law_named.nd rfl (Or.inl rfl)) (fun _ _ _ _ _ => pts_nil) (fun _ _ _ _ _ => (pe_op op_sub pe_int (pv 4))))) pss_nil)))
 (pss_cut (ps_if (PW.pt (pw_and (pt_cmpR op_eq (pv 0) pe_int (nomark _)) (pw_and1 (pt_cmpR op_ne (pe_callB (cr_sumK (K := K) rfl rfl) (by rfl) Bt.sum_ (by decide +kernel) (pa_cons (pv 2) pa_nil)) pe_int (nomark _))))) (pss_cons (ps_set (i := 3) sc__law_named.nd rfl (Or.inl rfl) (pe_cmpR op_eq (pe_callB (cr_sumK (K := K) rfl rfl) (by rfl) Bt.sum_ (by decide +kernel) (pa_cons (pv 2) pa_nil)) pe_int (nomark _)))
 (pss_cons (ps_setLc (i := 2) (own := [("bit", 4)]) (g := gName 4) (by rfl) sc__law_named.nd rfl rfl (sw_true rfl rfl rfl (by decide +kernel)) (pi_listK (K := K) rfl (pv 2)) (blkOk_by (own := [("bit", 4)]) (N := ["kind", "number", "bits", "three", "bit"]) (sc := defScope s__law_named) (by decide +kernel)) (fun _ _ _ _ _ => pg_name (i := 4) sc__law_named.nd rfl (Or.inl rfl)) (fun _ _ _ _ _ => pts_nil) (fun _ _ _ _ _ => (pe_op op_sub pe_int (pv 4))))
 (pss_one (ps_if (pt_val (pv 3)) (pss_one (ps_expr (pe_bm0 PySem.F.plainAttrs_list PySem.F.slot_list_reverse PySem.F.type_list_reverse mt_reverse (pv 2)))) pss_nil)))) pss_nil)
 (pss_one (ps_ret (pe_op op_add (pe_op op_add (pe_op op_add (pe_op op_mul pe_int (pe_ix (ix_listK (K := K) rfl) (pv 2) pe_int (fun _ _ => rfl))) (pe_op op_mul pe_int (pe_ix (ix_listK (K := K) rfl) (pv 2) pe_int (fun _ _ => rfl)))) (pe_op op_mul pe_int (pe_ix (ix_listK (K := K) rfl) (pv 2) pe_int (fun _ _ => rfl)))) (pe_ix (ix_listK (K := K) rfl) (pv 2) pe_int (fun _ _ => rfl))))))))), Go.at ?_⟩
    refine go_asgL (xs := (bitsN n).map V.int) (el_lst (by walk_at "ea") (by show (4 : Nat) ≤ 100000; decide)) fun p H1 hp e1 h1 => ?_
    refine go_cutIfd (p := k = 0) (fun σ' H' => ∃ p, σ' = [some (.int k), some (.int n), some (.ref p), none, none] ∧ Ex H H' ∧ H p = none ∧ H' p = some (.lst ((na1 k (bitsN n)).map V.int)))
      (by walk_at "et") (fun hk => ?_) (fun hk => ?_) (fun σ' H2 ⟨p2, hσ, e2, hp2, h2⟩ => ?_)
    · have hs : SqL K H1 p ((bitsN n).map V.int) := sq_of h1
      have hl : (bitsN n).length = 4 := rfl
      refine gl_asgL (xs := ([at0 (bitsN n) 2, at0 (bitsN n) 0, at0 (bitsN n) 3, at0 (bitsN n) 1]).map V.int) (el_lst (by walk_at "ea") (by show (4 : Nat) ≤ 100000; decide)) fun p2 H2 hp2 e2 h2 => fun H3 e3 => ⟨p2, rfl, (e1.trans e2).trans e3, fresh_back e1 hp2, ?_⟩
      rw [e3 _ _ h2]
      unfold na1
      rw [if_pos hk]
    · exact fun H2 e2 => ⟨p, rfl, e1.trans e2, hp, by rw [e2 _ _ h1]; unfold na1; rw [if_neg hk]⟩
    · subst hσ
      have l1 := na1_len k n
      generalize er1 : na1 k (bitsN n) = r1 at *
      have hs : SqL K H2 p2 (r1.map V.int) := sq_of h2
      refine go_cutIf (b := decide (k = 1) && decide (r1.sum = 1)) (fun σ' H' => ∃ p, σ' = [some (.int k), some (.int n), some (.ref p), none, none] ∧ Ex H H' ∧ H p = none ∧ H' p = some (.lst ((na2 k r1).map V.int)))
        (by walk_at "et") (fun hk => ?_) (fun hk => ?_) (fun σ' H3 ⟨p3, hσ, e3, hp3, h3⟩ => ?_)
      · simp only [Bool.and_eq_true, decide_eq_true_eq] at hk
        refine gl_rev h2 (ev_var rfl) fun H3 e3 => fun H4 e4 => ⟨p2, rfl, ((e2.trans e3).mut hp2).trans e4, hp2, ?_⟩
        rw [e4 _ _ upd_same]
        unfold na2
        rw [if_pos hk, List.map_reverse]
      · simp only [Bool.and_eq_false_iff, decide_eq_false_iff_not] at hk
        have hk' : ¬ (k = 1 ∧ r1.sum = 1) := fun z => by rcases hk with h | h; exact h z.1; exact h z.2
        refine gl_if (b := decide (k = 1) && (decide (at0 r1 0 = at0 r1 3) && (decide (at0 r1 1 = at0 r1 2) && decide (r1.sum = 2)))) (by walk_at "et") (fun hb => ?_) (fun hb => ?_)
        · simp only [Bool.and_eq_true, decide_eq_true_eq] at hb
          refine gl_asgL (el_mapL (fun x => .int (1 - x)) (ev_var rfl) hs (by omega) (fun _ => rfl) (fun x _ => by walk_at "ev")) fun p3 H3 hp3 e3 h3 => fun H4 e4 => ⟨p3, rfl, (e2.trans e3).trans e4, fresh_back e2 hp3, ?_⟩
          rw [e4 _ _ h3]
          unfold na2
          rw [if_neg hk', if_pos hb, List.map_map]
          rfl
        · have hb' : ¬ (k = 1 ∧ at0 r1 0 = at0 r1 3 ∧ at0 r1 1 = at0 r1 2 ∧ r1.sum = 2) := fun z => by simp [z] at hb
          refine fun H3 e3 => ⟨p2, rfl, e2.trans e3, hp2, ?_⟩
          rw [e3 _ _ h2]
          unfold na2
          rw [if_neg hk', if_neg hb']
      · subst hσ
        have l2 := na2_len k l1
        have e0 : nameN k n = 8 * at0 (na3 k (na2 k r1)) 0 + 4 * at0 (na3 k (na2 k r1)) 1 + 2 * at0 (na3 k (na2 k r1)) 2 + at0 (na3 k (na2 k r1)) 3 := by rw [← er1]; rfl
        generalize na2 k r1 = r2 at *
        have hs3 : SqL K H3 p3 (r2.map V.int) := sq_of h3
        refine go_cutIf (b := decide (k = 2) && decide (r2.sum ≠ 2)) (fun σ' H' => ∃ p y, σ' = [some (.int k), some (.int n), some (.ref p), y, none] ∧ Ex H H' ∧ H' p = some (.lst ((na3 k r2).map V.int)))
          (by walk_at "et") (fun hb => ?_) (fun hb => ?_) (fun σ' H4 ⟨p4, y, hσ, e4, h4⟩ => ?_)
        · simp only [Bool.and_eq_true, decide_eq_true_eq] at hb
          refine go_asg (by walk_at "ev") ?_
          refine go_asgL (el_mapL (fun x => .int (1 - x)) (ev_var rfl) hs3 (by omega) (fun _ => rfl) (fun x _ => by walk_at "ev")) fun p4 H4 hp4 e4 h4 => ?_
          refine gl_whenb (b := decide (r2.sum = 3)) (by walk_at "et") (fun ht => ?_) (fun ht => ?_)
          · refine gl_rev h4 (ev_var rfl) fun H5 e5 => fun H6 e6 => ⟨p4, _, rfl, (((e3.trans e4).trans e5).mut (fresh_back e3 hp4)).trans e6, ?_⟩
            rw [e6 _ _ upd_same]
            unfold na3
            rw [if_pos hb, if_pos (of_decide_eq_true ht), List.map_reverse, List.map_map]
            rfl
          · refine fun H5 e5 => ⟨p4, _, rfl, (e3.trans e4).trans e5, ?_⟩
            rw [e5 _ _ h4]
            unfold na3
            rw [if_pos hb, if_neg (of_decide_eq_false ht), List.map_map]
            rfl
        · have hb' : ¬ (k = 2 ∧ r2.sum ≠ 2) := fun z => by simp [z] at hb
          refine fun H4 e4 => ⟨p3, none, rfl, e3.trans e4, ?_⟩
          rw [e4 _ _ h3]
          unfold na3
          rw [if_neg hb']
        · subst hσ
          have l3 := na3_len k l2
          rw [e0] at q
          generalize na3 k r2 = r3 at *
          have hs4 : SqL K H4 p4 (r3.map V.int) := sq_of h4
          exact go_ret (by walk_at "ev") fun H5 e5 => q H5 (e4.trans e5)
/-! #### _law_rule_by -/
theorem named_all : ∀ k ∈ [(0 : Int), 1, 2], ((List.range 16).all fun i => ((List.range 16).map fun j : Nat => nameN k j).contains (i : Int)) = true := by decide +kernel
theorem named_rule {k : Int} (h0 : 0 ≤ k) (h1 : k < 3) : ((rng 16).map (nameN k)).Perm (rng 16) := by
  have hk := named_all k (by simp; omega)
  refine (sub_count (nodup_rng 16) (fun x hx => ?_) (by rw [List.length_map]; exact Nat.le_refl _)).symm
  obtain ⟨x0, x1⟩ := mem_rng.mp hx
  have := List.all_eq_true.mp hk x.toNat (List.mem_range.mpr (by omega))
  rw [List.contains_iff_mem] at this
  unfold rng ranI
  rw [List.map_map]
  rw [show ((x.toNat : Nat) : Int) = x by omega] at this
  exact this
def sp__law_rule_by (K : PySem.W.Frag) : Sp := fun vs H Q _ => ∃ (cell c : Int), vs = [.int cell, .int c] ∧ 2 ≤ c ∧ c ≤ 3 ∧ ∀ r, IsRule (n4 c) r → RetL (r.map V.int) H Q
theorem spr__law_rule_by {K : PySem.W.Frag} {H : Hp} {cell c : Int} (h0 : 2 ≤ c) (h1 : c ≤ 3) : SpR (sp__law_rule_by K) [.int cell, .int c] H (IsRule (n4 c)) := fun H1 e Q q E => ⟨cell, c, rfl, h0, h1, q⟩
theorem cal__law_rule_by {P : Program} {w : World} {K : PySem.W.Frag} {mg : Str → Option Value} {base : Heap} {f : Addr} {fd : FuncData} (Bt : Bl mg) (D : DefAt K mg "_law_rule_by" s__law_rule_by ["cell", "colours"] f fd) (C__law_named : CalE P w K mg base CX0 1 "_law_named" ["kind", "number"] (sp__law_named K)) :
    CalE P w K mg base CX0 2 "_law_rule_by" ["cell", "colours"] (sp__law_rule_by K) := by
  obtain ⟨f__law_named, fd__law_named, G__law_named, g__law_named, k__law_named, b__law_named⟩ := C__law_named.ex
  refine ⟨f, fd, D.F.ok sc__law_rule_by (fun vs H Q E h => ?_) (fun cdv A outer s H vs Q E hRm h => ?_), D.g, D.F.kp, D.b⟩
  · obtain ⟨cell, c, rfl, _⟩ := h; rfl
  · obtain ⟨cell, c, rfl, c0, c1, q⟩ := h
    obtain ⟨hn, hn2, hn3⟩ := n4_int c0 c1
    refine ⟨_, (pss_cons (ps_setLc (i := 3) (own := [("k", 2)]) (g := gName 2) (by rfl) sc__law_rule_by.nd rfl rfl (sw_true rfl rfl rfl (by decide +kernel)) (pi_range1 (by rfl) Bt.range_ (pa_cons (pe_op op_mul (pe_op op_mul (pe_op op_mul (pv 1) (pv 1)) (pv 1)) (pv 1)) pa_nil)) (blkOk_by (own := [("k", 2)]) (N := ["cell", "colours", "k", "rest", "out", "a", "b"]) (sc := defScope s__law_rule_by) (by decide +kernel)) (fun _ _ _ _ _ => pg_name (i := 2) sc__law_rule_by.nd rfl (Or.inl rfl)) (fun _ _ _ _ _ => pts_nil) (fun _ _ _ _ _ => (pv 2)))
 (pss_cons (ps_if (pt_cmpR op_eq (pe_op op_mod (pv 0) pe_int) pe_int (nomark _)) (pss_one (ps_ret (pe_ifExp (pt_cmpR op_eq (pv 1) pe_int (nomark _)) (pe_lc (own := [("k", 2)]) (g := gName 2) (by rfl) sc__law_rule_by.nd (pi_listK (K := K) rfl (pv 3)) (blkOk_by (own := [("k", 2)]) (N := ["cell", "colours", "k", "rest", "out", "a", "b"]) (sc := defScope s__law_rule_by) (by decide +kernel)) (fun _ _ _ _ _ => pg_name (i := 2) sc__law_rule_by.nd rfl (Or.inl rfl)) (fun _ _ _ _ _ => pts_nil) (fun _ _ _ _ _ => (pe_call G__law_named (hRm.mono (by decide)) (by rfl) g__law_named k__law_named b__law_named .nil pass0 (pa_cons (pe_op op_mod (pe_op op_fdiv (pv 0) pe_int) pe_int) (pa_cons (pv 2) pa_nil))))) (pv 3)))) pss_nil)
 (pss_cons (ps_set (i := 4) sc__law_rule_by.nd rfl (Or.inl rfl) (pe_lst pa_nil))
 (pss_cons (ps_if (pt_cmpR op_eq (pe_op op_mod (pv 0) pe_int) pe_int (nomark _)) (pss_cons (ps_set (i := 4) sc__law_rule_by.nd rfl (Or.inl rfl) (pe_callTy (call_listK (K := K) rfl) (by rfl) Bt.list_ (by decide +kernel) (pa_cons (pv 3) pa_nil)))
 (pss_cons (ps_for PassesOwn.never rfl (pi_range1 (by rfl) Bt.range_ (pa_cons pe_int pa_nil)) (pg_name (i := 2) sc__law_rule_by.nd rfl (Or.inl rfl))
 (pss_cons (ps_set (i := 0) sc__law_rule_by.nd rfl (Or.inr rfl) (pe_op op_mod (pe_op op_add (pe_op op_mul (pv 0) pe_int) pe_int) pe_int))
 (pss_cons (ps_set (i := 5) sc__law_rule_by.nd rfl (Or.inl rfl) (pe_op op_mod (pe_op op_fdiv (pv 0) pe_int) (pe_callB (call_lenK (K := K) rfl) (by rfl) Bt.len_ (by decide +kernel) (pa_cons (pv 4) pa_nil))))
 (pss_cons (ps_set (i := 6) sc__law_rule_by.nd rfl (Or.inl rfl) (pe_op op_mod (pe_op op_fdiv (pe_op op_fdiv (pv 0) pe_int) (pe_callB (call_lenK (K := K) rfl) (by rfl) Bt.len_ (by decide +kernel) (pa_cons (pv 4) pa_nil))) (pe_callB (call_lenK (K := K) rfl) (by rfl) Bt.len_ (by decide +kernel) (pa_cons (pv 4) pa_nil))))
 (pss_one (ps_asg (pe_tup (pa_cons (pe_ix (ix_listK (K := K) rfl) (pv 4) (pv 6) (fun _ _ => rfl)) (pa_cons (pe_ix (ix_listK (K := K) rfl) (pv 4) (pv 5) (fun _ _ => rfl)) pa_nil))) (pg_tupK (K := K) rfl (by rfl) (pgs_cons (pg_sub (pv 4) (pv 5) set_list) (pgs_cons (pg_sub (pv 4) (pv 6) set_list) pgs_nil)))))))))
 (pss_one (ps_ret (pv 4))))) pss_nil)
 (pss_cons (ps_while PassesOwn.never (pt_cmpR op_gt (pe_callB (call_lenK (K := K) rfl) (by rfl) Bt.len_ (by decide +kernel) (pa_cons (pv 3) pa_nil)) pe_int (nomark _))
 (pss_cons (ps_set (i := 0) sc__law_rule_by.nd rfl (Or.inr rfl) (pe_op op_mod (pe_op op_add (pe_op op_mul (pv 0) pe_int) pe_int) pe_int))
 (pss_one (ps_expr (pe_bm PySem.F.plainAttrs_list PySem.F.slot_list_append PySem.F.type_list_append mt_append (pv 4) (pa_cons (pe_bm PySem.F.plainAttrs_list PySem.F.slot_list_pop PySem.F.type_list_pop mt_popAt (pv 3) (pa_cons (pe_op op_mod (pe_op op_fdiv (pv 0) pe_int) (pe_callB (call_lenK (K := K) rfl) (by rfl) Bt.len_ (by decide +kernel) (pa_cons (pv 3) pa_nil))) pa_nil)) pa_nil))))))
 (pss_one (ps_ret (pv 4)))))))), Go.at ?_⟩
    refine go_asgL (xs := (rng (n4 c)).map V.int) (el_mapRI (fun i => i) (n := c * c * c * c) (by walk_at "ea") (by omega) (fun _ => rfl) (fun i hi => ev_var rfl)) fun p H1 hp e1 h1 => ?_
    have hs1 : SqL K H1 p ((rng (n4 c)).map V.int) := sq_of h1
    have hlr : (rng (n4 c)).length = n4 c := len_rng _
    refine go_when (p := cell % 5 = 0) (by walk_at "et") (fun h5 => ?_) (fun h5 => ?_)
    · refine go_retIf (b := decide (c = 2)) (by walk_at "et") (fun h2 => ?_) (fun h2 => ?_)
      · have k0 := Int.emod_nonneg (cell / 5) (show (3 : Int) ≠ 0 by decide)
        have k1 := Int.emod_lt_of_pos (cell / 5) (show (0 : Int) < 3 by decide)
        refine go_retL (el_mapL (fun x => .int (nameN (cell / 5 % 3) x)) (ev_var rfl) hs1 (by omega) (fun _ => rfl) (fun x hx => by walk_at "ev")) fun p2 H2 hp2 e2 h2' => ?_
        have hc2 : n4 c = 16 := by rw [of_decide_eq_true h2]; rfl
        refine q ((rng (n4 c)).map (nameN (cell / 5 % 3))) ?_ p2 H2 (fresh_back e1 hp2) (e1.trans e2) (by rw [h2', List.map_map]; rfl)
        rw [hc2]
        exact named_rule k0 k1
      · exact go_ret (ev_var rfl) fun H2 e2 => q _ (List.Perm.refl _) p H2 hp (e1.trans e2) (e2 _ _ h1)
    · refine go_asgL (el_lst ea_nil (by decide)) fun o H2 ho e2 h2 => ?_
      have hs2 := ex_l e2 hs1
      have hn0 : (0 : Int) < (n4 c : Int) := by omega
      refine go_when (p := cell % 5 = 1) (by walk_at "et") (fun h51 => ?_) (fun h51 => ?_)
      · refine go_asgL (el_list (ev_var rfl) hs2) fun o H3 ho3 e3 h3 => ?_
        refine go_forR1 (n := 3) (by walk_at "ea") (by decide) (fun i σ' H' => ∃ cl r y a b, σ' = [some (.int cl), some (.int c), y, some (.ref p), some (.ref o), a, b] ∧ Ex H H' ∧ H' o = some (.lst (r.map V.int)) ∧ IsRule (n4 c) r)
          (fun H4 e4 => ⟨cell, rng (n4 c), _, _, _, rfl, ((e1.trans e2).trans e3).trans e4, e4 _ _ h3, List.Perm.refl _⟩) (fun i σ' H' hi ⟨cl, r, y, a, b, hσ, e, hl, hr⟩ => ?_) (fun σ' H' ⟨cl, r, y, a, b, hσ, e, hl, hr⟩ => ?_)
        · subst hσ
          have hrl := hr.len
          have hsr : SqL K H' o (r.map V.int) := sq_of hl
          refine go_asg (v := .int ((cl * 48271 + 7) % 2147483647)) (by walk_at "ev") ?_
          refine go_asg (v := .int ((cl * 48271 + 7) % 2147483647 / 5 % r.length)) (by walk_at "ev") ?_
          have hr30 : (r.length : Int) < 1073741824 := by omega
          have hr31 : (0 : Int) < r.length := by omega
          refine go_asg (ev_op (ev_op (ev_op (ev_var rfl) ev_c (rv_fdiv (by decide) (by decide))) (ev_lenLI (ev_var rfl) hsr) (rv_fdiv hr31 hr30)) (ev_lenLI (ev_var rfl) hsr) (rv_mod hr31)) ?_
          have a0 := Int.emod_nonneg ((cl * 48271 + 7) % 2147483647 / 5) (show (r.length : Int) ≠ 0 by omega)
          have a1 := Int.emod_lt_of_pos ((cl * 48271 + 7) % 2147483647 / 5) (show (0 : Int) < r.length by omega)
          have b0 := Int.emod_nonneg ((cl * 48271 + 7) % 2147483647 / 11 / r.length) (show (r.length : Int) ≠ 0 by omega)
          have b1 := Int.emod_lt_of_pos ((cl * 48271 + 7) % 2147483647 / 11 / r.length) (show (0 : Int) < r.length by omega)
          generalize (cl * 48271 + 7) % 2147483647 / 5 % r.length = a' at *
          generalize (cl * 48271 + 7) % 2147483647 / 11 / r.length % r.length = b' at *
          generalize (cl * 48271 + 7) % 2147483647 = cl' at *
          refine gl_swap hl (ev_var rfl) (ev_var rfl) (fun _ => ev_var rfl) (fun _ => ev_var rfl) (ev_var rfl) (fun _ => ev_var rfl) (ev_var rfl) (fun _ => ev_var rfl) a0 a1 b0 b1 fun H4 e4 H5 k5 h5 => fun H6 e6 =>
            ⟨cl', _, _, _, _, rfl, fun x u hx => e6 _ _ (k5 x (fun z => ?_) u (e4 _ _ (e _ _ hx))), e6 _ _ h5, isRule_swap hr a0 a1 b0 b1⟩
          have hno := fresh_back ((e1.trans e2)) ho3
          rw [z, hno] at hx
          cases hx
        · subst hσ
          exact go_ret (ev_var rfl) fun H4 e4 => q r hr o H4 (fresh_back (e1.trans e2) ho3) (e.trans e4) (e4 _ _ hl)
      · have hpo : o ≠ p := fun z => by rw [z, h1] at ho; cases ho
        refine go_while (fun m σ' H' => ∃ cl r s y a b, σ' = [some (.int cl), some (.int c), y, some (.ref p), some (.ref o), a, b] ∧ Ex H H' ∧ H' p = some (.lst (r.map V.int)) ∧ H' o = some (.lst (s.map V.int)) ∧ IsRule (n4 c) (s ++ r) ∧ m = r.length) (n4 c)
          (fun H3 e3 => ⟨cell, rng (n4 c), [], _, _, _, rfl, (e1.trans e2).trans e3, e3 _ _ (e2 _ _ h1), e3 _ _ h2, List.Perm.refl _, hlr.symm⟩) (fun m σ' H' ⟨cl, r, s, y, a, b, hσ, e, hr, hs, hR, hm⟩ => ?_)
        subst hσ
        have hsr : SqL K H' p (r.map V.int) := sq_of hr
        have hrs := hR.len
        rw [List.length_append] at hrs
        refine ⟨decide (0 < (r.length : Int)), by walk_at "et", fun hb => ⟨fun σ2 H2 => ∃ cl r' s y a b, σ2 = [some (.int cl), some (.int c), y, some (.ref p), some (.ref o), a, b] ∧ Ex H H2 ∧ H2 p = some (.lst (r'.map V.int)) ∧ H2 o = some (.lst (s.map V.int)) ∧ IsRule (n4 c) (s ++ r') ∧ r'.length + 1 = r.length,
          fun σ2 H2 ⟨cl, r', s, y, a, b, hσ, e, hr', hs, hR, hm'⟩ => ⟨r'.length, by omega, cl, r', s, y, a, b, hσ, e, hr', hs, hR, rfl⟩, ?_⟩, fun hb => ?_⟩
        · have hpos : (0 : Int) < r.length := of_decide_eq_true hb
          refine go_asg (v := .int ((cl * 48271 + 29) % 2147483647)) (by walk_at "ev") ?_
          have a0 := Int.emod_nonneg ((cl * 48271 + 29) % 2147483647 / 3) (show (r.length : Int) ≠ 0 by omega)
          have a1 := Int.emod_lt_of_pos ((cl * 48271 + 29) % 2147483647 / 3) (show (0 : Int) < r.length by omega)
          refine gl_appPop (i := (cl * 48271 + 29) % 2147483647 / 3 % r.length) hs hr hpo (ev_var rfl) (ev_var rfl) (by walk_at "ev") a0 (by rw [List.length_map]; exact a1) (by rw [List.length_map]; omega) (by rw [List.length_map]; omega) fun H3 v e3 hv => fun H4 e4 => ?_
          generalize (cl * 48271 + 29) % 2147483647 / 3 % r.length = j at *
          have hj : j.toNat < r.length := by omega
          rw [List.getElem?_map, List.getElem?_eq_getElem hj] at hv
          have hv' : v = .int r[j.toNat] := (Option.some.inj hv).symm
          subst hv'
          refine ⟨_, r.eraseIdx j.toNat, s ++ [r[j.toNat]], y, a, b, rfl, fun x u hx => e4 _ _ ?_, ?_, ?_, ?_, ?_⟩
          · rw [upd_ne (fun z => by rw [z, fresh_back e1 ho] at hx; cases hx), upd_ne (fun z => by rw [z, hp] at hx; cases hx)]
            exact e3 _ _ (e _ _ hx)
          · rw [e4 _ _ (by rw [upd_ne hpo.symm]; exact upd_same), map_erase]
          · rw [e4 _ _ upd_same, List.map_append]
            rfl
          · refine List.Perm.trans ?_ hR
            rw [List.append_assoc]
            exact List.Perm.append_left s (perm_erase r _ hj)
          · rw [List.length_eraseIdx_of_lt hj]
            omega
        · have hz := of_decide_eq_false hb
          have hr0 : r = [] := List.eq_nil_of_length_eq_zero (by omega)
          subst hr0
          rw [List.append_nil] at hR
          exact go_ret (ev_var rfl) fun H3 e3 => q s hR o H3 (fresh_back e1 ho) (e.trans e3) (e3 _ _ hs)
/-! #### _law_boards -/
def sp__law_boards (K : PySem.W.Frag) : Sp := fun vs H Q _ => ∃ n h w : Nat, vs = [.int (n : Int), .int (w : Int), .int (h : Int)] ∧ 1 ≤ n ∧ n ≤ 3 ∧ h ≤ 16 ∧ w ≤ 16 ∧ n ^ (w * h) ≤ 1000 ∧ RetP (BsV K (lawB n h w)) H Q
theorem spp__law_boards {K : PySem.W.Frag} {H : Hp} {n h w : Nat} (n0 : 1 ≤ n) (n1 : n ≤ 3) (h1 : h ≤ 16) (w1 : w ≤ 16) (hz : n ^ (w * h) ≤ 1000) : SpP (sp__law_boards K) [.int (n : Int), .int (w : Int), .int (h : Int)] H (BsV K (lawB n h w)) := fun H1 e Q q E => ⟨n, h, w, rfl, n0, n1, h1, w1, hz, q⟩
def lawBp (n h w i : Nat) : List (List (List Int)) := (List.range i).map fun k => mk h w (digF n w k)
def rowsP (n w i y : Nat) : List (List Int) := (List.range y).map fun y : Nat => rowOf w (digF n w i (y : Int))
def rowP (n w i y x : Nat) : List Int := (List.range x).map fun x : Nat => digF n w i (y : Int) (x : Int)
theorem lawBp_succ (n h w i : Nat) : lawBp n h w (i + 1) = lawBp n h w i ++ [mk h w (digF n w i)] := by unfold lawBp; rw [List.range_succ, List.map_append]; rfl
theorem rowsP_succ (n w i y : Nat) : rowsP n w i (y + 1) = rowsP n w i y ++ [rowOf w (digF n w i (y : Int))] := by unfold rowsP; rw [List.range_succ, List.map_append]; rfl
theorem rowP_succ (n w i y x : Nat) : rowP n w i y (x + 1) = rowP n w i y x ++ [digF n w i (y : Int) (x : Int)] := by unfold rowP; rw [List.range_succ, List.map_append]; rfl
set_option maxHeartbeats 1000000 in
theorem cal__law_boards {P : Program} {w : World} {K : PySem.W.Frag} {mg : Str → Option Value} {base : Heap} {f : Addr} {fd : FuncData} (Bt : Bl mg) (D : DefAt K mg "_law_boards" s__law_boards ["colours", "width", "height"] f fd)  :
    CalE P w K mg base CX0 1 "_law_boards" ["colours", "width", "height"] (sp__law_boards K) := by
  refine ⟨f, fd, D.F.ok sc__law_boards (fun vs H Q E h => ?_) (fun cdv A outer s H vs Q E hRm h => ?_), D.g, D.F.kp, D.b⟩
  · obtain ⟨n, h, w, rfl, _⟩ := h; rfl
  · obtain ⟨n, h, w, rfl, n0, n1, h1, w1, hz, q⟩ := h
    refine ⟨_, (pss_cons (ps_set (i := 3) sc__law_boards.nd rfl (Or.inl rfl) (pe_lst pa_nil))
 (pss_cons (ps_set (i := 4) sc__law_boards.nd rfl (Or.inl rfl) pe_int)
 (pss_cons (ps_for PassesOwn.never rfl (pi_range1 (by rfl) Bt.range_ (pa_cons (pe_op op_mul (pv 1) (pv 2)) pa_nil)) (pg_name (i := 5) sc__law_boards.nd rfl (Or.inl rfl))
 (pss_one (ps_set (i := 4) sc__law_boards.nd rfl (Or.inl rfl) (pe_op op_mul (pv 4) (pv 0)))))
 (pss_cons (ps_for PassesOwn.never rfl (pi_range1 (by rfl) Bt.range_ (pa_cons (pv 4) pa_nil)) (pg_name (i := 6) sc__law_boards.nd rfl (Or.inl rfl))
 (pss_cons (ps_set (i := 7) sc__law_boards.nd rfl (Or.inl rfl) (pe_lst pa_nil))
 (pss_cons (ps_set (i := 8) sc__law_boards.nd rfl (Or.inl rfl) (pv 6))
 (pss_cons (ps_for PassesOwn.never rfl (pi_range1 (by rfl) Bt.range_ (pa_cons (pv 2) pa_nil)) (pg_name (i := 9) sc__law_boards.nd rfl (Or.inl rfl))
 (pss_cons (ps_set (i := 10) sc__law_boards.nd rfl (Or.inl rfl) (pe_lst pa_nil))
 (pss_cons (ps_for PassesOwn.never rfl (pi_range1 (by rfl) Bt.range_ (pa_cons (pv 1) pa_nil)) (pg_name (i := 11) sc__law_boards.nd rfl (Or.inl rfl))
 (pss_cons (ps_expr (pe_bm PySem.F.plainAttrs_list PySem.F.slot_list_append PySem.F.type_list_append mt_append (pv 10) (pa_cons (pe_op op_mod (pv 8) (pv 0)) pa_nil)))
 (pss_one (ps_set (i := 8) sc__law_boards.nd rfl (Or.inl rfl) (pe_op op_fdiv (pv 8) (pv 0))))))
 (pss_one (ps_expr (pe_bm PySem.F.plainAttrs_list PySem.F.slot_list_append PySem.F.type_list_append mt_append (pv 7) (pa_cons (pe_callTy (call_tupK (K := K) rfl) (by rfl) Bt.tuple_ (by decide +kernel) (pa_cons (pv 10) pa_nil)) pa_nil)))))))
 (pss_one (ps_expr (pe_bm PySem.F.plainAttrs_list PySem.F.slot_list_append PySem.F.type_list_append mt_append (pv 3) (pa_cons (pe_callTy (call_tupK (K := K) rfl) (by rfl) Bt.tuple_ (by decide +kernel) (pa_cons (pv 7) pa_nil)) pa_nil))))))))
 (pss_one (ps_ret (pv 3))))))), Go.at ?_⟩
    have hwh : w * h ≤ 16 * 16 := Nat.mul_le_mul w1 h1
    refine go_asgL (xs := []) (el_lst ea_nil (by decide)) fun p3 H1 hp3 e1 h3 => ?_
    refine go_asg (v := .int ((1 : Nat) : Int)) ev_c ?_
    refine go_forR1 (n := ((w * h : Nat) : Int)) (ea_cons (ev_is (v := .int ((w : Int) * (h : Int))) (by walk_at "ev") (by rw [Int.natCast_mul])) ea_nil) (by omega) (fun i σ' H' => ∃ (y5 : Option V), σ' = [some (.int (n : Int)), some (.int (w : Int)), some (.int (h : Int)), some (.ref p3), some (.int ((n ^ i : Nat) : Int)), y5, none, none, none, none, none, none] ∧ Ex H1 H')
      (fun H2 e2 => ⟨_, rfl, e2⟩) (fun i σ' H2 hi ⟨y5, hσ, e2⟩ => ?_) (fun σ' H2 ⟨y5, hσ, e2⟩ => ?_)
    · subst hσ
      have hle : n ^ i ≤ 1000 := Nat.le_trans (Nat.pow_le_pow_right n0 (by omega)) hz
      refine gl_asg (v := .int ((n ^ (i + 1) : Nat) : Int)) (ev_is (v := .int (((n ^ i : Nat) : Int) * (n : Int))) ?_ (by rw [Nat.pow_succ, Int.natCast_mul])) fun H3 e3 => ⟨_, rfl, e2.trans e3⟩
      generalize n ^ i = M at *
      walk_at "ev"
    · subst hσ
      rw [Int.toNat_natCast]
      refine go_forR1 (n := ((n ^ (w * h) : Nat) : Int)) (ea_cons (ev_var rfl) ea_nil) (by omega) (fun i σ' H' => ∃ (us : List V) (y6 y7 y8 y9 y10 y11 : Option V), σ' = [some (.int (n : Int)), some (.int (w : Int)), some (.int (h : Int)), some (.ref p3), some (.int ((n ^ (w * h) : Nat) : Int)), y5, y6, y7, y8, y9, y10, y11] ∧ Ex H H' ∧ H' p3 = some (.lst us) ∧ BssV K (lawBp n h w i) us H')
        (fun H3 e3 => ⟨[], _, _, _, _, _, _, rfl, (e1.trans e2).trans e3, (e2.trans e3) _ _ h3, rfl, fun i u r h2 => by simp at h2⟩) (fun i σ' H3 hi ⟨us, y6, y7, y8, y9, y10, y11, hσ, e3, h33, hb⟩ => ?_) (fun σ' H3 ⟨us, y6, y7, y8, y9, y10, y11, hσ, e3, h33, hb⟩ => ?_)
      · subst hσ
        have hul : us.length ≤ 1000 := by
          rw [hb.1]
          unfold lawBp
          rw [List.length_map, List.length_range]
          omega
        refine go_asgL (xs := []) (el_lst ea_nil (by decide)) fun p7 H4 hp7 e4 h7 => ?_
        refine go_asg (v := .int ((i : Nat) : Int)) (ev_var rfl) ?_
        refine go_forR1 (n := (h : Int)) (ea_cons (ev_var rfl) ea_nil) (by omega) (fun y σ' H' => ∃ (rs : List V) (y9 y10 y11 : Option V), σ' = [some (.int (n : Int)), some (.int (w : Int)), some (.int (h : Int)), some (.ref p3), some (.int ((n ^ (w * h) : Nat) : Int)), y5, some (.int (i : Int)), some (.ref p7), some (.int ((i / n ^ (y * w) : Nat) : Int)), y9, y10, y11] ∧ Ex H3 H' ∧ H' p7 = some (.lst rs) ∧ RwsV K (rowsP n w i y) rs H')
          (fun H5 e5 => ⟨[], y9, y10, y11, by rw [Nat.zero_mul, Nat.pow_zero, Nat.div_one]; rfl, e4.trans e5, e5 _ _ h7, rfl, fun i u r h2 => by simp at h2⟩) (fun y σ' H5 hy ⟨rs, y9, y10, y11, hσ, e5, h75, hr⟩ => ?_) (fun σ' H5 ⟨rs, y9, y10, y11, hσ, e5, h75, hr⟩ => ?_)
        · subst hσ
          have hrl : rs.length ≤ 1000 := by
            rw [hr.1]
            unfold rowsP
            rw [List.length_map, List.length_range]
            omega
          refine go_asgL (xs := []) (el_lst ea_nil (by decide)) fun p10 H6 hp10 e6 h10 => ?_
          refine go_forR1 (n := (w : Int)) (ea_cons (ev_var rfl) ea_nil) (by omega) (fun x σ' H' => ∃ (y11 : Option V), σ' = [some (.int (n : Int)), some (.int (w : Int)), some (.int (h : Int)), some (.ref p3), some (.int ((n ^ (w * h) : Nat) : Int)), y5, some (.int (i : Int)), some (.ref p7), some (.int ((i / n ^ (y * w + x) : Nat) : Int)), some (.int (y : Int)), some (.ref p10), y11] ∧ Ex H5 H' ∧ H' p10 = some (.lst ((rowP n w i y x).map V.int)))
            (fun H7 e7 => ⟨_, rfl, e6.trans e7, e7 _ _ h10⟩) (fun x σ' H7 hx ⟨y11, hσ, e7, h107⟩ => ?_) (fun σ' H7 ⟨y11, hσ, e7, h107⟩ => ?_)
          · subst hσ
            have hxl : ((rowP n w i y x).map V.int).length ≤ 1000 := by
              unfold rowP
              rw [List.length_map, List.length_map, List.length_range]
              omega
            have hd : ((i / n ^ (y * w + x) : Nat) : Int) % (n : Int) = digF n w i (y : Int) (x : Int) := by
              unfold digF
              rw [Int.toNat_natCast, Int.toNat_natCast, Int.natCast_emod]
            have hq : ((i / n ^ (y * w + x) : Nat) : Int) / (n : Int) = ((i / n ^ (y * w + (x + 1)) : Nat) : Int) := by
              rw [← Nat.add_assoc, Nat.pow_succ, ← Nat.div_div_eq_div_mul]
              exact (Int.natCast_ediv _ _).symm
            generalize hM : ((i / n ^ (y * w + x) : Nat) : Int) = M at *
            refine go_app h107 (ev_var rfl) (ev_is (v := .int (M % (n : Int))) (by walk_at "ev") (by rw [hd])) (by omega) fun H8 e8 => ?_
            refine gl_asg (ev_is (v := .int (M / (n : Int))) (by walk_at "ev") (by rw [hq])) fun H9 e9 => ⟨_, rfl, ((e7.trans e8).mut (fresh_back (Ex.refl _) hp10)).trans e9, ?_⟩
            rw [rowP_succ, List.map_append]
            exact e9 _ _ upd_same
          · subst hσ
            rw [Int.toNat_natCast] at h107
            refine gl_appP (P := RwV K (rowOf w (digF n w i (y : Int)))) (e7 _ _ h75) (ev_var rfl) (ep_U (eu_tupV (ev_var rfl) (sq_of h107)) fun t H8 _ ht => ⟨t, rfl, st_of ht⟩) (by omega) fun v H8 e8 hv => fun H9 e9 => ?_
            refine ⟨rs ++ [v], some (.int (y : Int)), some (.ref p10), y11, ?_, ((e5.trans (e7.trans e8)).mut hp7).trans e9, e9 _ _ upd_same, ?_⟩
            · rw [show y * w + ((w : Int)).toNat = (y + 1) * w by rw [Int.toNat_natCast, Nat.succ_mul]]
            · rw [rowsP_succ]
              exact ((hr.imm (ExI.of (e7.trans e8))).snoc hv).imm ((ExI.upd (e8 _ _ (e7 _ _ h75))).trans (ExI.of e9))
        · subst hσ
          rw [Int.toNat_natCast] at hr
          refine gl_appP (P := BdV K (mk h w (digF n w i))) (e5 _ _ h33) (ev_var rfl) (ep_U (eu_tupV (ev_var rfl) (sq_of h75)) fun t H6 e6 ht => ⟨t, rs, rfl, st_of ht, hr.1, fun k u r a b => rw_imm r u _ _ (ExI.of e6) (hr.2 k u r a b)⟩) (by omega) fun v H6 e6 hv => fun H7 e7 => ?_
          refine ⟨us ++ [v], _, _, _, _, _, _, rfl, ((e3.trans (e5.trans e6)).mut (hp3)).trans e7, e7 _ _ upd_same, ?_⟩
          rw [lawBp_succ]
          exact ((hb.up (e5.trans e6)).snoc hv).imm ((ExI.upd (e6 _ _ (e5 _ _ h33))).trans (ExI.of e7))
      · subst hσ
        rw [Int.toNat_natCast] at hb
        exact go_ret (ev_var rfl) fun H4 e4 => q _ H4 (e3.trans e4) ⟨p3, us, rfl, e4 _ _ h33, hb.up e4⟩
/-! #### _law_step -/
def sp__law_step (K : PySem.W.Frag) : Sp := fun vs H Q _ => ∃ (v : V) (a : Addr) (hh ww : Nat) (c : Int) (r : List Int) (f : Int → Int → Int) (m : Int), vs = [v, .ref a, .int c, .int m] ∧ BArg K H v a hh ww c r f ∧
  RetP (BdV K (mk (2 * hh) (2 * ww) (stepF (2 * (hh : Int)) (2 * (ww : Int)) c r m f))) H Q
theorem spp__law_step {K : PySem.W.Frag} {H : Hp} {v : V} {a : Addr} {hh ww : Nat} {c : Int} {r : List Int} {f : Int → Int → Int} {m : Int} (A : BArg K H v a hh ww c r f) : SpP (sp__law_step K) [v, .ref a, .int c, .int m] H (BdV K (mk (2 * hh) (2 * ww) (stepF (2 * (hh : Int)) (2 * (ww : Int)) c r m f))) :=
  fun H1 e Q q E => ⟨v, a, hh, ww, c, r, f, m, rfl, A.up e, q⟩
def celF (h w c : Int) (r : List Int) (m : Int) (f : Int → Int → Int) (Y X : Int) (y x : Int) : Int := if y < Y ∨ (y = Y ∧ x < X) then stepF h w c r m f y x else f y x
theorem quo_at (n c : Int) {a : Int} (h0 : 0 ≤ a) (h1 : a ≤ 3) : quo n c (3 - a).toNat % c = at0 (blockM n c) a := by
  rcases (show a = 0 ∨ a = 1 ∨ a = 2 ∨ a = 3 by omega) with rfl | rfl | rfl | rfl <;> rfl
theorem two_flags (b1 b2 : Bool) : 0 ≤ 2 * (if b1 then (1 : Int) else 0) + (if b2 then 1 else 0) ∧ 2 * (if b1 then (1 : Int) else 0) + (if b2 then 1 else 0) ≤ 3 := by cases b1 <;> cases b2 <;> decide
theorem cal__law_step {P : Program} {w : World} {K : PySem.W.Frag} {mg : Str → Option Value} {base : Heap} {f : Addr} {fd : FuncData} (Bt : Bl mg) (D : DefAt K mg "_law_step" s__law_step ["board", "rule", "colours", "moment"] f fd)  :
    CalE P w K mg base CX0 1 "_law_step" ["board", "rule", "colours", "moment"] (sp__law_step K) := by
  refine ⟨f, fd, D.F.ok sc__law_step (fun vs H Q E h => ?_) (fun cdv A outer s H vs Q E hRm h => ?_), D.g, D.F.kp, D.b⟩
  · obtain ⟨v, a, hh, ww, c, r, f, m, rfl, _⟩ := h; rfl
  · obtain ⟨v, a, hh, ww, c, r, f, m, rfl, A, q⟩ := h
    obtain ⟨hn, hn2, hn3⟩ := n4_int A.c0 A.c1
    obtain ⟨a1, a2, a3, a4, c0, c1, hB, hbd, hR, hru⟩ := id A
    have hrl := hru.len
    have ch : ((2 * hh : Nat) : Int) = 2 * (hh : Int) := by omega
    have cw : ((2 * ww : Nat) : Int) = 2 * (ww : Int) := by omega
    refine ⟨_, (pss_cons (ps_set (i := 4) sc__law_step.nd rfl (Or.inl rfl) (pe_callB (call_lenK (K := K) rfl) (by rfl) Bt.len_ (by decide +kernel) (pa_cons (pv 0) pa_nil)))
 (pss_cons (ps_set (i := 5) sc__law_step.nd rfl (Or.inl rfl) (pe_callB (call_lenK (K := K) rfl) (by rfl) Bt.len_ (by decide +kernel) (pa_cons (pe_ix (ix_tupK (K := K) rfl) (pv 0) pe_int (fun _ _ => rfl)) pa_nil)))
 (pss_cons (ps_setLc (i := 6) (own := [("row", 19)]) (g := gName 19) (by rfl) sc__law_step.nd rfl rfl (sw_true rfl rfl rfl (by decide +kernel)) (pi_tupK (K := K) rfl (pv 0)) (blkOk_by (own := [("row", 19)]) (N := ["board", "rule", "colours", "moment", "height", "width", "rows", "y", "x", "top", "left", "low", "right", "cells", "number", "colour", "made", "at", "k", "row"]) (sc := defScope s__law_step) (by decide +kernel)) (fun _ _ _ _ _ => pg_name (i := 19) sc__law_step.nd rfl (Or.inl rfl)) (fun _ _ _ _ _ => pts_nil) (fun _ _ _ _ _ => (pe_callTy (call_listK (K := K) rfl) (by rfl) Bt.list_ (by decide +kernel) (pa_cons (pv 19) pa_nil))))
 (pss_cons (ps_for PassesOwn.never rfl (pi_range1 (by rfl) Bt.range_ (pa_cons (pv 4) pa_nil)) (pg_name (i := 7) sc__law_step.nd rfl (Or.inl rfl))
 (pss_one (ps_for PassesOwn.never rfl (pi_range1 (by rfl) Bt.range_ (pa_cons (pv 5) pa_nil)) (pg_name (i := 8) sc__law_step.nd rfl (Or.inl rfl))
 (pss_cons (ps_set (i := 9) sc__law_step.nd rfl (Or.inl rfl) (pe_ifExp (pt_cmpR op_eq (pe_op op_mod (pe_op op_sub (pv 7) (pv 3)) pe_int) pe_int (nomark _)) (pv 7) (pe_op op_mod (pe_op op_sub (pv 7) pe_int) (pv 4))))
 (pss_cons (ps_set (i := 10) sc__law_step.nd rfl (Or.inl rfl) (pe_ifExp (pt_cmpR op_eq (pe_op op_mod (pe_op op_sub (pv 8) (pv 3)) pe_int) pe_int (nomark _)) (pv 8) (pe_op op_mod (pe_op op_sub (pv 8) pe_int) (pv 5))))
 (pss_cons (ps_set (i := 11) sc__law_step.nd rfl (Or.inl rfl) (pe_op op_mod (pe_op op_add (pv 9) pe_int) (pv 4)))
 (pss_cons (ps_set (i := 12) sc__law_step.nd rfl (Or.inl rfl) (pe_op op_mod (pe_op op_add (pv 10) pe_int) (pv 5)))
 (pss_cons (ps_set (i := 13) sc__law_step.nd rfl (Or.inl rfl) (pe_lst (pa_cons (pe_ix (ix_tupK (K := K) rfl) (pe_ix (ix_tupK (K := K) rfl) (pv 0) (pv 9) (fun _ _ => rfl)) (pv 10) (fun _ _ => rfl)) (pa_cons (pe_ix (ix_tupK (K := K) rfl) (pe_ix (ix_tupK (K := K) rfl) (pv 0) (pv 9) (fun _ _ => rfl)) (pv 12) (fun _ _ => rfl)) (pa_cons (pe_ix (ix_tupK (K := K) rfl) (pe_ix (ix_tupK (K := K) rfl) (pv 0) (pv 11) (fun _ _ => rfl)) (pv 10) (fun _ _ => rfl)) (pa_cons (pe_ix (ix_tupK (K := K) rfl) (pe_ix (ix_tupK (K := K) rfl) (pv 0) (pv 11) (fun _ _ => rfl)) (pv 12) (fun _ _ => rfl)) pa_nil))))))
 (pss_cons (ps_set (i := 14) sc__law_step.nd rfl (Or.inl rfl) pe_int)
 (pss_cons (ps_for PassesOwn.never rfl (pi_listK (K := K) rfl (pv 13)) (pg_name (i := 15) sc__law_step.nd rfl (Or.inl rfl))
 (pss_one (ps_set (i := 14) sc__law_step.nd rfl (Or.inl rfl) (pe_op op_add (pe_op op_mul (pv 14) (pv 2)) (pv 15)))))
 (pss_cons (ps_set (i := 16) sc__law_step.nd rfl (Or.inl rfl) (pe_ix (ix_listK (K := K) rfl) (pv 1) (pv 14) (fun _ _ => rfl)))
 (pss_cons (ps_set (i := 17) sc__law_step.nd rfl (Or.inl rfl) (pe_op op_add (pe_op op_mul pe_int (pe_callTy call_int1S (by rfl) Bt.int_ (by decide +kernel) (pa_cons (pe_cmpR op_ne (pv 7) (pv 9) (nomark _)) pa_nil))) (pe_callTy call_int1S (by rfl) Bt.int_ (by decide +kernel) (pa_cons (pe_cmpR op_ne (pv 8) (pv 10) (nomark _)) pa_nil))))
 (pss_cons (ps_for PassesOwn.never rfl (pi_range1 (by rfl) Bt.range_ (pa_cons (pe_op op_sub pe_int (pv 17)) pa_nil)) (pg_name (i := 18) sc__law_step.nd rfl (Or.inl rfl))
 (pss_one (ps_set (i := 16) sc__law_step.nd rfl (Or.inl rfl) (pe_op op_fdiv (pv 16) (pv 2)))))
 (pss_one (ps_asg (pe_op op_mod (pv 16) (pv 2)) (pg_sub (pe_ix (ix_listK (K := K) rfl) (pv 6) (pv 7) (fun _ _ => rfl)) (pv 8) set_list))))))))))))))))
 (pss_one (ps_ret (pe_callTy (call_tupK (K := K) rfl) (by rfl) Bt.tuple_ (by decide +kernel) (pa_cons (pe_lc (own := [("row", 19)]) (g := gName 19) (by rfl) sc__law_step.nd (pi_listK (K := K) rfl (pv 6)) (blkOk_by (own := [("row", 19)]) (N := ["board", "rule", "colours", "moment", "height", "width", "rows", "y", "x", "top", "left", "low", "right", "cells", "number", "colour", "made", "at", "k", "row"]) (sc := defScope s__law_step) (by decide +kernel)) (fun _ _ _ _ _ => pg_name (i := 19) sc__law_step.nd rfl (Or.inl rfl)) (fun _ _ _ _ _ => pts_nil) (fun _ _ _ _ _ => (pe_callTy (call_tupK (K := K) rfl) (by rfl) Bt.tuple_ (by decide +kernel) (pa_cons (pv 19) pa_nil)))) pa_nil)))))))), Go.at ?_⟩
    refine go_asg (v := .int (2 * (hh : Int))) (ev_is (ev_lenM (ev_var rfl) hB) (by rw [ch])) ?_
    refine go_asg (v := .int (2 * (ww : Int))) (ev_is (ev_wide (by omega) (ev_var rfl) ev_c hB) (by rw [cw])) ?_
    refine go_asgG hB (by omega) (ev_var rfl) (fun _ => rfl) (fun _ => rfl) fun g as H1 hg e1 hf G => ?_
    refine go_forR1 (n := 2 * (hh : Int)) (by walk_at "ea") (by omega)
      (fun i σ' H' => ∃ y7 y8 y9 y10 y11 y12 y13 y14 y15 y16 y17 y18, σ' = [some v, some (.ref a), some (.int c), some (.int m), some (.int (2 * (hh : Int))), some (.int (2 * (ww : Int))), some (.ref g), y7, y8, y9, y10, y11, y12, y13, y14, y15, y16, y17, y18, none] ∧ Ex H H' ∧
        Grid H' g as (2 * hh) (2 * ww) (celF (2 * (hh : Int)) (2 * (ww : Int)) c r m f i 0))
      (fun H2 e2 => ⟨_, _, _, _, _, _, _, _, _, _, _, _, rfl, e1.trans e2, (G.up e2).congr fun y x y0 y1 x0 x1 => ?_⟩) (fun i σ' H' hi ⟨y7, y8, y9, y10, y11, y12, y13, y14, y15, y16, y17, y18, hσ, e, G⟩ => ?_) (fun σ' H' ⟨y7, y8, y9, y10, y11, y12, y13, y14, y15, y16, y17, y18, hσ, e, G⟩ => ?_)
    · unfold celF
      rw [if_neg (by omega)]
    · subst hσ
      refine gl_forR1 (n := 2 * (ww : Int)) (by walk_at "ea") (by omega)
        (fun j σ' H' => ∃ y8 y9 y10 y11 y12 y13 y14 y15 y16 y17 y18, σ' = [some v, some (.ref a), some (.int c), some (.int m), some (.int (2 * (hh : Int))), some (.int (2 * (ww : Int))), some (.ref g), some (.int (i : Int)), y8, y9, y10, y11, y12, y13, y14, y15, y16, y17, y18, none] ∧ Ex H H' ∧
          Grid H' g as (2 * hh) (2 * ww) (celF (2 * (hh : Int)) (2 * (ww : Int)) c r m f i j))
        (fun H2 e2 => ⟨_, _, _, _, _, _, _, _, _, _, _, rfl, e.trans e2, G.up e2⟩) (fun j σ' H2 hj ⟨y8, y9, y10, y11, y12, y13, y14, y15, y16, y17, y18, hσ, e2, G2⟩ => ?_) (fun σ' H2 ⟨y8, y9, y10, y11, y12, y13, y14, y15, y16, y17, y18, hσ, e2, G2⟩ => ?_)
      · subst hσ
        clear G e
        have Y0 : (0 : Int) ≤ i := Int.natCast_nonneg i
        have X0 : (0 : Int) ≤ j := Int.natCast_nonneg j
        have hst : stepF (2 * (hh : Int)) (2 * (ww : Int)) c r m f i j = at0 (blockM (at0 r (numM [f (topM m i (2 * (hh : Int))) (topM m j (2 * (ww : Int))), f (topM m i (2 * (hh : Int))) ((topM m j (2 * (ww : Int)) + 1) % (2 * (ww : Int))), f ((topM m i (2 * (hh : Int)) + 1) % (2 * (hh : Int))) (topM m j (2 * (ww : Int))), f ((topM m i (2 * (hh : Int)) + 1) % (2 * (hh : Int))) ((topM m j (2 * (ww : Int)) + 1) % (2 * (ww : Int)))] c)) c) ((if (i : Int) = topM m i (2 * (hh : Int)) then 0 else 2) + if (j : Int) = topM m j (2 * (ww : Int)) then 0 else 1) := rfl
        obtain ⟨t0, t1⟩ := top_rng (m := m) Y0 hi
        obtain ⟨s0, s1⟩ := top_rng (m := m) X0 hj
        have l0 := Int.emod_nonneg (topM m i (2 * (hh : Int)) + 1) (show 2 * (hh : Int) ≠ 0 by omega)
        have l1 := Int.emod_lt_of_pos (topM m i (2 * (hh : Int)) + 1) (show (0 : Int) < 2 * (hh : Int) by omega)
        have r0 := Int.emod_nonneg (topM m j (2 * (ww : Int)) + 1) (show 2 * (ww : Int) ≠ 0 by omega)
        have r1 := Int.emod_lt_of_pos (topM m j (2 * (ww : Int)) + 1) (show (0 : Int) < 2 * (ww : Int) by omega)
        refine go_asg (v := .int (topM m i (2 * (hh : Int)))) (ev_if (b := decide (((i : Int) - m) % 2 = 0)) (by walk_at "et") (fun hb => ev_is (ev_var rfl) ?_) (fun hb => ev_is (v := .int (((i : Int) - 1) % (2 * (hh : Int)))) (by walk_at "ev") ?_)) ?_
        · unfold topM; rw [if_pos (of_decide_eq_true hb)]
        · unfold topM; rw [if_neg (of_decide_eq_false hb)]
        refine go_asg (v := .int (topM m j (2 * (ww : Int)))) (ev_if (b := decide (((j : Int) - m) % 2 = 0)) (by walk_at "et") (fun hb => ev_is (ev_var rfl) ?_) (fun hb => ev_is (v := .int (((j : Int) - 1) % (2 * (ww : Int)))) (by walk_at "ev") ?_)) ?_
        · unfold topM; rw [if_pos (of_decide_eq_true hb)]
        · unfold topM; rw [if_neg (of_decide_eq_false hb)]
        generalize topM m i (2 * (hh : Int)) = t at *
        generalize topM m j (2 * (ww : Int)) = s at *
        refine go_asg (v := .int ((t + 1) % (2 * (hh : Int)))) (by walk_at "ev") ?_
        refine go_asg (v := .int ((s + 1) % (2 * (ww : Int)))) (by walk_at "ev") ?_
        generalize (t + 1) % (2 * (hh : Int)) = lo at *
        generalize (s + 1) % (2 * (ww : Int)) = ri at *
        have hB2 := hB.up e2
        have hR2 := ex_l e2 hR
        refine go_asgL (xs := [f t s, f t ri, f lo s, f lo ri].map V.int) (el_lst (by walk_at "ea") (by show (4 : Nat) ≤ 100000; decide)) fun p H3 hp e3 h3 => ?_
        have hnum : 0 ≤ numM [f t s, f t ri, f lo s, f lo ri] c ∧ numM [f t s, f t ri, f lo s, f lo ri] c < c * c * c * c :=
          num_rng c0 c1 (hbd _ _ (by omega) (by omega) (by omega) (by omega)) (hbd _ _ (by omega) (by omega) (by omega) (by omega)) (hbd _ _ (by omega) (by omega) (by omega) (by omega)) (hbd _ _ (by omega) (by omega) (by omega) (by omega))
        generalize [f t s, f t ri, f lo s, f lo ri] = cs at *
        refine go_asg ev_c ?_
        refine go_forL (a := p) (ev_var rfl) (sq_of h3) (fun k σ' H' => ∃ y, σ' = [some v, some (.ref a), some (.int c), some (.int m), some (.int (2 * (hh : Int))), some (.int (2 * (ww : Int))), some (.ref g), some (.int (i : Int)), some (.int (j : Int)), some (.int t), some (.int s), some (.int lo), some (.int ri), some (.ref p), some (.int (numM (cs.take k) c)), y, y16, y17, y18, none] ∧ Ex H3 H')
          (fun H4 e4 => ⟨_, rfl, e4⟩) (fun k σ' H' _ ⟨y, _, e⟩ => ex_l e (sq_of h3)) (fun k x σ' H' hk ⟨y, hσ, e⟩ => ?_) (fun σ' H4 ⟨y, hσ, e4⟩ => ?_)
        · subst hσ
          rw [List.getElem?_map] at hk
          obtain ⟨z, hz, rfl⟩ := Option.map_eq_some_iff.mp hk
          refine gl_asg (v := .int (numM (cs.take k) c * c + z)) (by walk_at "ev") (fun H1 e1 => ⟨some (.int z), ?_, e.trans e1⟩)
          rw [numM_take hz]
          rfl
        · subst hσ
          rw [List.length_map, List.take_length]
          have hR4 := ex_l (e3.trans e4) hR2
          refine go_asg (v := .int (at0 r (numM cs c))) (ev_ixLI (ev_var rfl) (ev_var rfl) hR4 hnum.1 (by omega)) ?_
          have fl := two_flags (decide ((i : Int) ≠ t)) (decide ((j : Int) ≠ s))
          have ib := int_bool (decide ((i : Int) ≠ t))
          refine go_asg (v := .int (2 * (if decide ((i : Int) ≠ t) then 1 else 0) + (if decide ((j : Int) ≠ s) then 1 else 0))) (ev_op (ev_op ev_c (ev_intB (by walk_at "ev")) (rv_mulR ib.1 ib.2)) (ev_intB (by walk_at "ev")) rv_I0) ?_
          have hidx : ((if (i : Int) = t then 0 else 2) + if (j : Int) = s then 0 else 1) = 2 * (if decide ((i : Int) ≠ t) then (1 : Int) else 0) + (if decide ((j : Int) ≠ s) then 1 else 0) := by
            by_cases h1 : (i : Int) = t <;> by_cases h2 : (j : Int) = s <;> simp [h1, h2]
          rw [hidx] at hst
          generalize 2 * (if decide ((i : Int) ≠ t) then (1 : Int) else 0) + (if decide ((j : Int) ≠ s) then 1 else 0) = d at *
          refine go_forR1 (n := 3 - d) (by walk_at "ea") (by omega) (fun k σ' H' => ∃ y, σ' = [some v, some (.ref a), some (.int c), some (.int m), some (.int (2 * (hh : Int))), some (.int (2 * (ww : Int))), some (.ref g), some (.int (i : Int)), some (.int (j : Int)), some (.int t), some (.int s), some (.int lo), some (.int ri), some (.ref p), some (.int (numM cs c)), σ'.getD 15 none, some (.int (quo (at0 r (numM cs c)) c k)), some (.int d), y, none] ∧ Ex H4 H')
            (fun H5 e5 => ⟨_, rfl, e5⟩) (fun k σ' H' hk ⟨y, hσ, e⟩ => ?_) (fun σ' H5 ⟨y, hσ, e5⟩ => ?_)
          · generalize σ'.getD 15 none = y15' at hσ
            subst hσ
            exact gl_asg (v := .int (quo (at0 r (numM cs c)) c k / c)) (by walk_at "ev") (fun H1 e1 => ⟨_, rfl, e.trans e1⟩)
          · generalize σ'.getD 15 none = y15' at hσ
            subst hσ
            have G5 := G2.up ((e3.trans e4).trans e5)
            have e25 : Ex H H5 := e2.trans ((e3.trans e4).trans e5)
            refine gl_grid G5 (v := stepF (2 * (hh : Int)) (2 * (ww : Int)) c r m f i j) (ev_is (v := .int (quo (at0 r (numM cs c)) c (3 - d).toNat % c)) (by walk_at "ev") (by rw [hst, quo_at _ _ fl.1 fl.2])) (ev_var rfl) (ev_var rfl) (ev_var rfl) Y0 (by omega) X0 (by omega) fun H6 H7 e6 k6 x6 G7 => fun H8 e8 => ?_
            refine ⟨_, _, _, _, _, _, _, _, _, _, _, rfl, (ex_keep hf (e25.trans e6) k6).trans e8, (G7.up e8).congr fun y x y0 y1 x0 x1 => ?_⟩
            unfold updF celF
            by_cases hyx : y = i ∧ x = j
            · rw [if_pos hyx, if_pos (.inr ⟨hyx.1, by omega⟩), hyx.1, hyx.2]
            · rw [if_neg hyx]
              have : (y < (i : Int) ∨ y = i ∧ x < (j : Int)) ↔ (y < (i : Int) ∨ y = i ∧ x < ((j + 1 : Nat) : Int)) := by omega
              simp only [this]
      · subst hσ
        refine fun H3 e3 => ⟨_, _, _, _, _, _, _, _, _, _, _, _, rfl, e2.trans e3, (G2.up e3).congr fun y x y0 y1 x0 x1 => ?_⟩
        unfold celF
        have : (y < (i : Int) ∨ y = i ∧ x < (((2 * (ww : Int)).toNat : Nat) : Int)) ↔ (y < ((i + 1 : Nat) : Int) ∨ y = ((i + 1 : Nat) : Int) ∧ x < 0) := by omega
        simp only [this]
    · subst hσ
      refine go_retP (ep_gridT (G.congr (c2 := stepF (2 * (hh : Int)) (2 * (ww : Int)) c r m f) fun y x y0 y1 x0 x1 => ?_) (by omega) (ev_var rfl) (fun _ => rfl) (fun _ => rfl)) fun v H2 e2 p => q v H2 (e.trans e2) p
      unfold celF
      rw [if_pos (.inl (by omega))]
/-! #### _law_rings -/
def sp__law_rings (K : PySem.W.Frag) : Sp := fun vs H Q _ => ∃ (a : Addr) (r : List Int) (n hh ww : Nat), vs = [.ref a, .int (n : Int), .int ((2 * ww : Nat) : Int), .int ((2 * hh : Nat) : Int)] ∧ H a = some (.lst (r.map V.int)) ∧ 2 ≤ n ∧ n ≤ 3 ∧ IsRule (n4 (n : Int)) r ∧ 1 ≤ hh ∧ hh ≤ 8 ∧ 1 ≤ ww ∧ ww ≤ 8 ∧
  n ^ (2 * ww * (2 * hh)) ≤ 300 ∧ RetP (LtV K (histC (ringF hh ww (n : Int) r) (allB n (2 * hh) (2 * ww)))) H Q
set_option maxHeartbeats 1000000 in
theorem cal__law_rings {P : Program} {w : World} {K : PySem.W.Frag} {mg : Str → Option Value} {base : Heap} {f : Addr} {fd : FuncData} (Bt : Bl mg) (D : DefAt K mg "_law_rings" s__law_rings ["rule", "colours", "width", "height"] f fd) (C__law_boards : CalE P w K mg base CX0 1 "_law_boards" ["colours", "width", "height"] (sp__law_boards K)) (C__law_step : CalE P w K mg base CX0 1 "_law_step" ["board", "rule", "colours", "moment"] (sp__law_step K)) :
    CalE P w K mg base CX0 2 "_law_rings" ["rule", "colours", "width", "height"] (sp__law_rings K) := by
  obtain ⟨f__law_boards, fd__law_boards, G__law_boards, g__law_boards, k__law_boards, b__law_boards⟩ := C__law_boards.ex
  obtain ⟨f__law_step, fd__law_step, G__law_step, g__law_step, k__law_step, b__law_step⟩ := C__law_step.ex
  refine ⟨f, fd, D.F.ok sc__law_rings (fun vs H Q E h => ?_) (fun cdv A outer s H vs Q E hRm h => ?_), D.g, D.F.kp, D.b⟩
  · obtain ⟨a, r, n, hh, ww, rfl, _⟩ := h; rfl
  · obtain ⟨a, r, n, hh, ww, rfl, hS, n0, n1, hr, h1, h2, w1, w2, hsm, q⟩ := h
    refine ⟨_, (pss_cons (ps_set (i := 4) sc__law_rings.nd rfl (Or.inl rfl) (pe_newB (P := P) (w := w) (K := K) rfl rfl))
 (pss_cons (ps_set (i := 5) sc__law_rings.nd rfl (Or.inr rfl) (pe_lst pa_nil))
 (pss_cons (ps_for PassesOwn.never rfl (pi_listK (K := K) rfl (pe_call G__law_boards (hRm.mono (by decide)) (by rfl) g__law_boards k__law_boards b__law_boards .nil pass0 (pa_cons (pv 1) (pa_cons (pv 2) (pa_cons (pv 3) pa_nil))))) (pg_name (i := 6) sc__law_rings.nd rfl (Or.inl rfl))
 (pss_cons (ps_set (i := 7) sc__law_rings.nd rfl (Or.inl rfl) pe_int)
 (pss_cons (ps_while PassesOwn.never (pt_cmpR (op_notInB (P := P) (w := w) (K := K) rfl rfl rfl hRm.units) (pv 6) (pv 4) (by rfl))
 (pss_cons (ps_putB (P := P) (w := w) (K := K) rfl rfl rfl hRm.units (pv 4) (pv 6) pe_bl rfl)
 (pss_cons (ps_set (i := 7) sc__law_rings.nd rfl (Or.inl rfl) (pe_op op_add (pv 7) pe_int))
 (pss_one (ps_set (i := 6) sc__law_rings.nd rfl (Or.inl rfl) (pe_call G__law_step (hRm.mono (by decide)) (by rfl) g__law_step k__law_step b__law_step .nil pass0 (pa_cons (pe_call G__law_step (hRm.mono (by decide)) (by rfl) g__law_step k__law_step b__law_step .nil pass0 (pa_cons (pv 6) (pa_cons (pv 0) (pa_cons (pv 1) (pa_cons pe_int pa_nil))))) (pa_cons (pv 0) (pa_cons (pv 1) (pa_cons pe_int pa_nil))))))))))
 (pss_one (ps_if (pt_cmpR op_gt (pv 7) pe_int (nomark _)) (pss_one (ps_expr (pe_bm PySem.F.plainAttrs_list PySem.F.slot_list_append PySem.F.type_list_append mt_append (pv 5) (pa_cons (pv 7) pa_nil)))) pss_nil)))))
 (pss_one (ps_ret (pe_lc (own := [("length", 7)]) (g := gName 7) (by rfl) sc__law_rings.nd (pi_listK (K := K) rfl (pe_callB (cr_sortedSetK (w := w) rfl rfl) (by rfl) Bt.sorted_ (by decide +kernel) (pa_cons (pe_callTy (cr_setLI (w := w) (K := K) rfl rfl rfl) (by rfl) Bt.set_ (by decide +kernel) (pa_cons (pv 5) pa_nil)) pa_nil))) (blkOk_by (own := [("length", 7)]) (N := ["rule", "colours", "width", "height", "seen", "lengths", "board", "length"]) (sc := defScope s__law_rings) (by decide +kernel)) (fun _ _ _ _ _ => pg_name (i := 7) sc__law_rings.nd rfl (Or.inl rfl)) (fun _ _ _ _ _ => pts_nil) (fun _ _ _ _ _ => (pe_tup (pa_cons (pv 7) (pa_cons (pe_bmK (K := K) rfl PySem.F.plainAttrs_list PySem.F.slot_list_count PySem.F.type_list_count (mt_lcountK (K := K) rfl) (pv 5) (pa_cons (pv 7) pa_nil)) pa_nil)))))))))), Go.at ?_⟩
    have hwh : 2 * ww * (2 * hh) ≤ 16 * 16 := Nat.mul_le_mul (by omega) (by omega)
    have c0 : (2 : Int) ≤ (n : Int) := by omega
    have c1 : (n : Int) ≤ 3 := by omega
    have LP := lawB_perm (c := n) (h := 2 * hh) (w := 2 * ww) (by omega) (by omega)
    have PF0 := ring_perm (hh := hh) (ww := ww) (n := n) rfl c0 c1 hr
    have PF : PermOn (ringF hh ww (n : Int) r) (lawB n (2 * hh) (2 * ww)) := ⟨LP.nodup_iff.mpr PF0.nd, fun x hx => LP.mem_iff.mpr (PF0.to x (LP.mem_iff.mp hx)), fun x hx y hy => PF0.inj x (LP.mem_iff.mp hx) y (LP.mem_iff.mp hy)⟩
    have hXl : (lawB n (2 * hh) (2 * ww)).length ≤ 300 := by rw [LP.length_eq, len_allB]; exact hsm
    have hXp : n ^ (2 * ww * (2 * hh)) = (lawB n (2 * hh) (2 * ww)).length := by rw [LP.length_eq, len_allB]
    have hX1 : 1 ≤ n ^ (2 * ww * (2 * hh)) := Nat.pow_pos (by omega)
    have hXm : ∀ B ∈ lawB n (2 * hh) (2 * ww), ∃ f, Bnd (2 * hh) (2 * ww) (n : Int) f ∧ B = mk (2 * hh) (2 * ww) f := fun B hB => ⟨_, (allB_mk (LP.mem_iff.mp hB)).1, (allB_mk (LP.mem_iff.mp hB)).2⟩
    have hperm := histC_perm (F := ringF hh ww (n : Int) r) LP
    rw [← hperm] at q
    clear PF0 LP hperm
    refine go_newB fun d H1 hd e1 hs1 => ?_
    refine go_asgL (xs := []) (el_lst ea_nil (by decide)) fun e H2 he e2 h2e => ?_
    have hs2 := hs1.up e2
    have he0 : H e = none := fresh_back e1 he
    have nde : d ≠ e := by
      obtain ⟨xs, z, _⟩ := hs1
      exact ne_of_none z he
    have nad : a ≠ d := ne_of_none hS hd
    have nae : a ≠ e := ne_of_none hS he0
    refine go_forC (P := BsV K (lawB n (2 * hh) (2 * ww))) (ep_call (ea_cons (ev_var rfl) (ea_cons (ev_var rfl) (ea_cons (ev_var rfl) ea_nil))) (spp__law_boards (by omega) n1 (by omega) (by omega) (by omega))) fun v H3 e3 hv => ?_
    obtain ⟨p, us, rfl, hp, hus⟩ := hv
    have hs3 := hs2.up e3
    have h3e := e3 _ _ h2e
    have hS3 := ((e1.trans e2).trans e3) _ _ hS
    obtain ⟨xs3, hxs3, _⟩ := id hs3
    have npd : p ≠ d := ne_of hp hxs3 (fun z => nomatch z)
    have hT : ∀ H', ExB d e H3 H' → ExT H3 H' := fun H' y => y.t hxs3 h3e (fun _ z => nomatch z) (fun _ _ z => nomatch z)
    have npe : p ≠ e := fun z => by
      subst z
      rw [h3e] at hp
      have e0 : us = [] := (HO.lst.inj (Option.some.inj hp)).symm
      rw [e0] at hus
      have := hus.1
      rw [← hXp] at this
      simp at this
      omega
    generalize hX : lawB n (2 * hh) (2 * ww) = X at *
    generalize hF : ringF hh ww (n : Int) r = F at *
    refine go_forL (a := p) (xs := us) ev_c (sq_of hp) (fun i σ' H' => ∃ (S : List (List (List Int))) (Ls : List Nat) (y6 y7 : Option V), σ' = [some (.ref a), some (.int (n : Int)), some (.int ((2 * ww : Nat) : Int)), some (.int ((2 * hh : Nat) : Int)), some (.ref d), some (.ref e), y6, y7] ∧
        ExB d e H3 H' ∧ Seen P w K H' d S ∧ H' e = some (.lst ((Ls.map fun n : Nat => (n : Int)).map V.int)) ∧ Told F X S Ls ∧ ∀ (j : Nat) B, j < i → X[j]? = some B → B ∈ S)
      (fun H4 e4 => ⟨[], [], _, _, rfl, ExB.of e4, hs3.up e4, e4 _ _ h3e, Told.none, fun j B hj => by omega⟩) (fun i σ' H' _ ⟨_, _, _, _, _, y, _⟩ => sq_of (y _ _ npd npe hp)) (fun i x σ' H4 hi ⟨S, Ls, y6, y7, hσ, x4, hs4, h4e, hT4, hj4⟩ => ?_) (fun σ' H4 ⟨S, Ls, y6, y7, hσ, x4, hs4, h4e, hT4, hj4⟩ => ?_)
    · subst hσ
      have hil : i < X.length := by rw [← hus.1]; exact (List.getElem?_eq_some_iff.mp hi).1
      have hXi : X[i]? = some X[i] := List.getElem?_eq_getElem hil
      have hBX : X[i] ∈ X := List.getElem_mem hil
      have hBd : BdV K X[i] x H4 := (hus.2 i x _ hi hXi).ext (hT _ x4)
      generalize X[i] = B at *
      have nxt : ∀ (S' : List (List (List Int))), (∀ y ∈ S, y ∈ S') → B ∈ S' → ∀ (j : Nat) C, j < i + 1 → X[j]? = some C → C ∈ S' := fun S' h1 h2 j C hj hC => by
        rcases Nat.lt_or_ge j i with z | z
        · exact h1 _ (hj4 j C z hC)
        · obtain rfl : j = i := by omega
          rw [hXi] at hC
          cases hC
          exact h2
      refine go_asg (v := .int ((0 : Nat) : Int)) ev_c ?_
      by_cases hB : B ∈ S
      · refine go_while (fun m σ' H' => σ' = [some (.ref a), some (.int (n : Int)), some (.int ((2 * ww : Nat) : Int)), some (.int ((2 * hh : Nat) : Int)), some (.ref d), some (.ref e), some x, some (.int ((0 : Nat) : Int))] ∧ Ex H4 H') 0 (fun H5 e5 => ⟨rfl, e5⟩) (fun m σ' H5 ⟨hσ, e5⟩ => ?_)
        subst hσ
        refine ⟨!decide (B ∈ S), et_test (ev_op (ev_var rfl) (ev_var rfl) (rv_notInB (hBd.up e5) (hs4.up e5))), (fun z => by rw [decide_eq_true hB] at z; cases z), fun _ => ?_⟩
        refine gl_when (p := (0 : Int) < ((0 : Nat) : Int)) (et_test (ev_op (ev_var rfl) ev_c rv_I0)) (fun z => absurd z (by decide)) (fun _ => fun H6 e6 => ?_)
        have e56 := e5.trans e6
        exact ⟨S, Ls, _, _, rfl, x4.trans (ExB.of e56), hs4.up e56, e56 _ _ h4e, hT4, nxt S (fun _ h => h) hB⟩
      · have hSl := len_sub hT4.cl.nd hT4.cl.sub
        refine go_while (fun m σ' H' => ∃ (k : Nat) (v : V), σ' = [some (.ref a), some (.int (n : Int)), some (.int ((2 * ww : Nat) : Int)), some (.int ((2 * hh : Nat) : Int)), some (.ref d), some (.ref e), some v, some (.int (k : Int))] ∧
            ExB d e H3 H' ∧ Seen P w K H' d (S ++ orb F B k) ∧ H' e = some (.lst ((Ls.map fun n : Nat => (n : Int)).map V.int)) ∧ BdV K (itr F k B) v H' ∧ Walk F X S B k ∧ m = X.length - (S.length + k)) _
          (fun H5 e5 => ⟨0, x, rfl, x4.trans (ExB.of e5), by simpa [orb] using hs4.up e5, e5 _ _ h4e, hBd.up e5, ⟨hB, hBX, fun j h1 h2 => by omega⟩, rfl⟩) (fun m σ' H5 ⟨k, v, hσ, x5, hs5, h5e, hv5, W, hm⟩ => ?_)
        subst hσ
        have hle := W.le PF hT4.cl
        refine ⟨!decide (itr F k B ∈ S ++ orb F B k), et_test (ev_op (ev_var rfl) (ev_var rfl) (rv_notInB hv5 hs5)), fun z => ?_, fun z => ?_⟩
        · have hnew : itr F k B ∉ S ++ orb F B k := by
            rw [Bool.not_eq_true', decide_eq_false_iff_not] at z
            exact z
          have W2 := W.next hnew
          have hle2 := W2.le PF hT4.cl
          refine ⟨fun σ' H' => ∃ (v : V), σ' = [some (.ref a), some (.int (n : Int)), some (.int ((2 * ww : Nat) : Int)), some (.int ((2 * hh : Nat) : Int)), some (.ref d), some (.ref e), some v, some (.int ((k + 1 : Nat) : Int))] ∧
              ExB d e H3 H' ∧ Seen P w K H' d (S ++ orb F B (k + 1)) ∧ H' e = some (.lst ((Ls.map fun n : Nat => (n : Int)).map V.int)) ∧ BdV K (itr F (k + 1) B) v H', fun σ2 H6 ⟨v2, a1, a2, a3, a4, a5⟩ => ⟨X.length - (S.length + (k + 1)), by omega, k + 1, v2, a1, a2, a3, a4, a5, W2, rfl⟩, ?_⟩
          refine go_putB (ev_var rfl) (ev_var rfl) ev_c hv5 hs5 hnew (by rw [List.length_append, len_orb]; omega) fun H6 o e6 t6 hs6 => ?_
          have x6 : ExB d e H3 (upd H6 d o) := fun b ob b1 b2 hb => by rw [upd_ne b1]; exact e6 _ _ (x5 _ _ b1 b2 hb)
          have h6e : (upd H6 d o) e = some (.lst ((Ls.map fun n : Nat => (n : Int)).map V.int)) := by rw [upd_ne (Ne.symm nde)]; exact e6 _ _ h5e
          have hv6 : BdV K (itr F k B) v (upd H6 d o) := (hv5.up e6).ext t6
          have hS6 := x6 _ _ nad nae hS3
          generalize upd H6 d o = H7 at *
          refine go_asg (v := .int ((k + 1 : Nat) : Int)) (ev_is (v := .int ((k : Int) + 1)) (ev_op (ev_var rfl) ev_c rv_I0) (by rfl)) ?_
          obtain ⟨f, hf, ef⟩ := hXm _ (PF.itr_mem hBX k)
          rw [ef] at hv6
          have A : BArg K H7 v a hh ww (n : Int) r f := ⟨h1, h2, w1, w2, c0, c1, hv6, hf, sq_of hS6, hr⟩
          refine gl_asgP (P := BdV K (mk (2 * hh) (2 * ww) (runF (2 * (hh : Int)) (2 * (ww : Int)) (n : Int) r 0 2 f))) (ep_callP (R := fun vs H => ∃ v, vs = [v, .ref a, .int (n : Int), .int 1] ∧ BdV K (mk (2 * hh) (2 * ww) (stepF (2 * (hh : Int)) (2 * (ww : Int)) (n : Int) r 0 f)) v H)
            (eap_cons (R := fun vs _ => vs = [.ref a, .int (n : Int), .int 1]) ((bd_imm _).mono) (ep_call (vs := [v, .ref a, .int (n : Int), .int 0]) (ea_cons (ev_var rfl) (ea_cons (ev_var rfl) (ea_cons (ev_var rfl) (ea_cons ev_c ea_nil)))) (spp__law_step (m := 0) A)) (eap_of (ea_cons (ev_var rfl) (ea_cons (ev_var rfl) (ea_cons ev_c ea_nil))) fun _ _ => rfl) (fun v vs H _ hv hvs => ⟨v, by rw [hvs], hv⟩))
            (fun vs H8 e8 ⟨v3, hvs, hv3⟩ => by
              rw [hvs]
              exact spp__law_step (m := 1) ⟨h1, h2, w1, w2, c0, c1, hv3, bnd_step c0, sq_of (e8 _ _ hS6), hr⟩)) fun v2 H8 e8 hv8 => fun H9 e9 => ?_
          have e79 := e8.trans e9
          refine ⟨v2, rfl, x6.trans (ExB.of e79), ?_, e79 _ _ h6e, ?_⟩
          · rw [orb_succ, ← List.append_assoc]
            exact hs6.up e79
          · show BdV K (F (itr F k B)) v2 H9
            rw [ef, ← hF, ringF_mk]
            exact hv8.up e9
        · have hmet : itr F k B ∈ S ++ orb F B k := by
            rw [Bool.not_eq_false', decide_eq_true_eq] at z
            exact z
          have hper := W.end PF hT4.cl hmet
          have hk1 := (perB_iff.mp hper).1
          refine gl_when (p := (0 : Int) < (k : Int)) (et_test (ev_op (ev_var rfl) ev_c rv_I0)) (fun _ => ?_) (fun z => absurd (show (0 : Int) < (k : Int) by omega) z)
          have hLl : ((Ls.map fun n : Nat => (n : Int)).map V.int).length ≤ 1000 := by
            have := hT4.sum
            have := len_le_sum Ls hT4.pos
            rw [List.length_map, List.length_map]
            omega
          refine gl_app (v := .int (k : Int)) h5e (ev_var rfl) (ev_var rfl) (by omega) fun H6 e6 => fun H7 e7 => ?_
          have t6 : ExT H6 (upd H6 e (.lst ((Ls.map fun n : Nat => (n : Int)).map V.int ++ [.int (k : Int)]))) := fun b ob hb ho => by
            rw [upd_ne (fun z => by
              subst z
              rw [e6 _ _ h5e] at hb
              cases hb
              rcases ho with ⟨_, z⟩ | ⟨_, _, z⟩ <;> cases z)]
            exact hb
          refine ⟨S ++ orb F B k, Ls ++ [k], _, _, rfl, fun b ob b1 b2 hb => e7 _ _ (by rw [upd_ne b2]; exact e6 _ _ (x5 _ _ b1 b2 hb)), ((hs5.up e6).other nde t6).up e7, ?_, hT4.ring PF W hper, nxt _ (fun y hy => List.mem_append.mpr (.inl hy)) (List.mem_append.mpr (.inr (mem_orb.mpr ⟨0, hk1, rfl⟩)))⟩
          rw [List.map_append, List.map_append]
          exact e7 _ _ upd_same
    · subst hσ
      rw [hus.1] at hj4
      have pm : S.Perm X := (sub_perm PF.nd (fun B hB => by
        obtain ⟨j, hj, e⟩ := List.getElem_of_mem hB
        exact hj4 j B hj (by rw [← e]; exact List.getElem?_eq_getElem hj)) (len_sub hT4.cl.nd hT4.cl.sub)).symm
      have hsum : Ls.sum ≤ 1000 := by rw [hT4.sum, pm.length_eq]; omega
      have hLl : Ls.length ≤ 1000 := by have := len_le_sum Ls hT4.pos; omega
      have hist := hT4.hist pm (srtL_sorted Ls) (fun k => mem_srtL)
      refine go_retP (ep_LP (elp_NL (P := fun i => RwV K [(((srtL Ls).getD i 0 : Nat) : Int), (Ls.count ((srtL Ls).getD i 0) : Int)]) (fun i => rw_imm _) (el_srtS (ev_var rfl) (sq_of h4e) hLl hT4.pos hsum) (by unfold srtI; rw [List.length_map, List.length_map]; have := srtL_few hT4.pos hsum; omega) (fun _ => rfl) fun i x hi => ?_)) fun v H5 e5 ⟨p5, vs, hv, h5, hl5, hP⟩ => ?_
      · obtain ⟨m, hm, rfl⟩ := srtI_get hi
        have em : (srtL Ls).getD i 0 = m := by rw [List.getD_eq_getElem?_getD, hm]; rfl
        rw [em]
        exact ep_U (eu_tup (vs := [.int (m : Int), .int (Ls.count m : Int)]) (ea_cons (ev_var rfl) (ea_cons (ev_count (ev_var rfl) (ev_var rfl) (sq_of h4e)) ea_nil)) (by show (2 : Nat) ≤ 100000; decide)) fun t H6 _ ht => ⟨t, rfl, st_of ht⟩
      · subst hv
        refine q _ H5 ((ExB.ex ((e1.trans e2).trans e3) x4 hd he0).trans e5) ?_
        rw [← hist]
        exact pairs_lt h5 hl5 hP
/-! #### count_of -/
def CntP (n k : Nat) (v : V) (_ : Hp) : Prop := ∃ M : Nat, v = .int (M : Int) ∧ (300 < M ↔ 300 < n ^ k)
def sp_count_of (K : PySem.W.Frag) : Sp := fun vs H Q _ => ∃ n k : Nat, vs = [.int (n : Int), .int (k : Int)] ∧ 2 ≤ n ∧ n ≤ 3 ∧ k ≤ 1000 ∧ RetP (CntP n k) H Q
theorem spp_count_of {K : PySem.W.Frag} {H : Hp} {n k : Nat} (h0 : 2 ≤ n) (h1 : n ≤ 3) (hk : k ≤ 1000) : SpP (sp_count_of K) [.int (n : Int), .int (k : Int)] H (CntP n k) := fun H1 e Q q E => ⟨n, k, rfl, h0, h1, hk, q⟩
theorem cal_count_of {P : Program} {w : World} {K : PySem.W.Frag} {mg : Str → Option Value} {base : Heap} {f : Addr} {fd : FuncData} (Bt : Bl mg) (D : DefAt K mg "count_of" s_count_of ["colours", "cells"] f fd) {V_MOST_BOARDS : Tok} (C_MOST_BOARDS : mg "MOST_BOARDS" = some (Value.int 300 V_MOST_BOARDS))  :
    CalE P w K mg base CX0 1 "count_of" ["colours", "cells"] (sp_count_of K) := by
  refine ⟨f, fd, D.F.ok sc_count_of (fun vs H Q E h => ?_) (fun cdv A outer s H vs Q E hRm h => ?_), D.g, D.F.kp, D.b⟩
  · obtain ⟨n, k, rfl, _⟩ := h; rfl
  · obtain ⟨n, k, rfl, n0, n1, hk, q⟩ := h
    refine ⟨_, (pss_cons (ps_set (i := 2) sc_count_of.nd rfl (Or.inl rfl) pe_int)
 (pss_cons (ps_for PassesOwn.never rfl (pi_range1 (by rfl) Bt.range_ (pa_cons (pv 1) pa_nil)) (pg_name (i := 3) sc_count_of.nd rfl (Or.inl rfl))
 (pss_one (ps_if (pt_cmpR op_le (pv 2) (pe_glob (v := .int 300) rfl C_MOST_BOARDS ⟨_, rfl⟩) (nomark _)) (pss_one (ps_set (i := 2) sc_count_of.nd rfl (Or.inl rfl) (pe_op op_mul (pv 2) (pv 0)))) pss_nil)))
 (pss_one (ps_ret (pv 2))))), Go.at ?_⟩
    refine go_asg (v := .int ((1 : Nat) : Int)) ev_c ?_
    refine go_forR1 (n := (k : Int)) (ea_cons (ev_var rfl) ea_nil) (by omega) (fun i σ' H' => ∃ (M : Nat) (y : Option V), σ' = [some (.int (n : Int)), some (.int (k : Int)), some (.int (M : Int)), y] ∧ Ex H H' ∧ M ≤ 900 ∧ (M = n ^ i ∨ (300 < M ∧ 300 < n ^ i)))
      (fun H1 e1 => ⟨1, _, rfl, e1, by decide, .inl rfl⟩) (fun i σ' H1 hi ⟨M, y, hσ, e1, h9, hM⟩ => ?_) (fun σ' H1 ⟨M, y, hσ, e1, h9, hM⟩ => ?_)
    · subst hσ
      refine gl_when (p := (M : Int) ≤ 300) (by walk_at "et") (fun h3 => ?_) (fun h3 => fun H2 e2 => ⟨M, _, rfl, e1.trans e2, h9, ?_⟩)
      · refine gl_asg (v := .int ((M * n : Nat) : Int)) (ev_is (v := .int ((M : Int) * (n : Int))) (by walk_at "ev") (by rw [Int.natCast_mul])) fun H2 e2 => ⟨M * n, _, rfl, e1.trans e2, ?_, ?_⟩
        · have : M * n ≤ 300 * 3 := Nat.mul_le_mul (by omega) n1
          omega
        · rcases hM with hM | hM
          · exact .inl (by rw [hM, Nat.pow_succ])
          · omega
      · refine .inr ⟨by omega, ?_⟩
        have h : 300 < n ^ i := by
          rcases hM with hM | hM
          · omega
          · exact hM.2
        rw [Nat.pow_succ]
        exact Nat.lt_of_lt_of_le h (Nat.le_mul_of_pos_right _ (by omega))
    · subst hσ
      rw [Int.toNat_natCast] at hM
      exact go_ret (ev_var rfl) fun H2 e2 => q _ H2 (e1.trans e2) ⟨M, rfl, by omega⟩
/-! #### all_boards -/
def sp_all_boards (K : PySem.W.Frag) : Sp := fun vs H Q _ => ∃ n h w : Nat, vs = [.int (n : Int), .int (w : Int), .int (h : Int)] ∧ 1 ≤ n ∧ n ≤ 3 ∧ 1 ≤ h ∧ h ≤ 16 ∧ w ≤ 16 ∧ n ^ (w * h) ≤ 1000 ∧ RetP (BsV K (allB n h w)) H Q
theorem spp_all_boards {K : PySem.W.Frag} {H : Hp} {n h w : Nat} (n0 : 1 ≤ n) (n1 : n ≤ 3) (h0 : 1 ≤ h) (h1 : h ≤ 16) (w1 : w ≤ 16) (hz : n ^ (w * h) ≤ 1000) : SpP (sp_all_boards K) [.int (n : Int), .int (w : Int), .int (h : Int)] H (BsV K (allB n h w)) := fun H1 e Q q E => ⟨n, h, w, rfl, n0, n1, h0, h1, w1, hz, q⟩
theorem take_le_flat {β : Type} {xs : List β} {ts : List (List β)} {i j : Nat} {t : List β} (ht : ts[i]? = some t) : ((ts.take i).flatMap (fun t => xs.map fun x => t ++ [x]) ++ (xs.take j).map (fun x => t ++ [x])).length ≤ (ts.flatMap fun t => xs.map fun x => t ++ [x]).length := by
  have e : ts.flatMap (fun t => xs.map fun x => t ++ [x]) = (ts.take (i + 1)).flatMap (fun t => xs.map fun x => t ++ [x]) ++ (ts.drop (i + 1)).flatMap (fun t => xs.map fun x => t ++ [x]) := by
    rw [← List.flatMap_append, List.take_append_drop]
  rw [e, tupsL_next ht, List.length_append, List.length_append, List.length_append, List.length_map, List.length_map, List.length_take, List.length_take]
  omega
theorem rng_get {n i : Nat} (h : i < n) : (rng n)[i]? = some (i : Int) := by
  unfold rng ranI
  rw [List.getElem?_map, List.getElem?_range h]
  rfl
theorem pow_up {n a b : Nat} (n0 : 1 ≤ n) (h : a ≤ b) : n ^ a ≤ n ^ b := Nat.pow_le_pow_right n0 h
set_option maxHeartbeats 1000000 in
theorem cal_all_boards {P : Program} {w : World} {K : PySem.W.Frag} {mg : Str → Option Value} {base : Heap} {f : Addr} {fd : FuncData} (Bt : Bl mg) (D : DefAt K mg "all_boards" s_all_boards ["colours", "width", "height"] f fd)  :
    CalE P w K mg base CX0 1 "all_boards" ["colours", "width", "height"] (sp_all_boards K) := by
  refine ⟨f, fd, D.F.ok sc_all_boards (fun vs H Q E h => ?_) (fun cdv A outer s H vs Q E hRm h => ?_), D.g, D.F.kp, D.b⟩
  · obtain ⟨n, h, w, rfl, _⟩ := h; rfl
  · obtain ⟨n, h, w, rfl, n0, n1, h0, h1, w1, hz, q⟩ := h
    refine ⟨_, (pss_cons (ps_set (i := 3) sc_all_boards.nd rfl (Or.inl rfl) (pe_lst (pa_cons (pe_tup pa_nil) pa_nil)))
 (pss_cons (ps_for PassesOwn.never rfl (pi_range1 (by rfl) Bt.range_ (pa_cons (pv 1) pa_nil)) (pg_name (i := 4) sc_all_boards.nd rfl (Or.inl rfl))
 (pss_cons (ps_set (i := 5) sc_all_boards.nd rfl (Or.inl rfl) (pe_lst pa_nil))
 (pss_cons (ps_for PassesOwn.never rfl (pi_listK (K := K) rfl (pv 3)) (pg_name (i := 6) sc_all_boards.nd rfl (Or.inl rfl))
 (pss_one (ps_for PassesOwn.never rfl (pi_range1 (by rfl) Bt.range_ (pa_cons (pv 0) pa_nil)) (pg_name (i := 7) sc_all_boards.nd rfl (Or.inl rfl))
 (pss_one (ps_expr (pe_bm PySem.F.plainAttrs_list PySem.F.slot_list_append PySem.F.type_list_append mt_append (pv 5) (pa_cons (pe_op (op_catAK (K := K) rfl) (pv 6) (pe_tup (pa_cons (pv 7) pa_nil))) pa_nil)))))))
 (pss_one (ps_set (i := 3) sc_all_boards.nd rfl (Or.inl rfl) (pv 5))))))
 (pss_cons (ps_set (i := 8) sc_all_boards.nd rfl (Or.inl rfl) (pe_lst (pa_cons (pe_tup pa_nil) pa_nil)))
 (pss_cons (ps_for PassesOwn.never rfl (pi_range1 (by rfl) Bt.range_ (pa_cons (pv 2) pa_nil)) (pg_name (i := 9) sc_all_boards.nd rfl (Or.inl rfl))
 (pss_cons (ps_set (i := 10) sc_all_boards.nd rfl (Or.inl rfl) (pe_lst pa_nil))
 (pss_cons (ps_for PassesOwn.never rfl (pi_listK (K := K) rfl (pv 8)) (pg_name (i := 11) sc_all_boards.nd rfl (Or.inl rfl))
 (pss_one (ps_for PassesOwn.never rfl (pi_listK (K := K) rfl (pv 3)) (pg_name (i := 6) sc_all_boards.nd rfl (Or.inl rfl))
 (pss_one (ps_expr (pe_bm PySem.F.plainAttrs_list PySem.F.slot_list_append PySem.F.type_list_append mt_append (pv 10) (pa_cons (pe_op (op_catAK (K := K) rfl) (pv 11) (pe_tup (pa_cons (pv 6) pa_nil))) pa_nil)))))))
 (pss_one (ps_set (i := 8) sc_all_boards.nd rfl (Or.inl rfl) (pv 10))))))
 (pss_one (ps_ret (pv 8))))))), Go.at ?_⟩
    have lw : ∀ i, i ≤ w → (tupsL (rng n) i).length ≤ 1000 := fun i hi => by
      rw [len_tupsL, len_rng]
      exact Nat.le_trans (pow_up n0 (Nat.le_trans hi (Nat.le_mul_of_pos_right w (by omega)))) hz
    refine go_asgP (ep_lst1 (P := RwV K []) (rw_imm _) (ep_U (eu_tup (vs := []) ea_nil (by decide)) fun p H1 _ hp => ⟨p, rfl, st_of hp⟩)) fun v H1 e1 hv => ?_
    obtain ⟨p, x, rfl, hp, hx⟩ := hv
    refine go_forR1 (n := (w : Int)) (ea_cons (ev_var rfl) ea_nil) (by omega) (fun i σ' H' => ∃ (p : Addr) (us : List V) (y4 y5 y6 y7 : Option V), σ' = [some (.int (n : Int)), some (.int (w : Int)), some (.int (h : Int)), some (.ref p), y4, y5, y6, y7, none, none, none, none] ∧ Ex H H' ∧ H' p = some (.lst us) ∧ RwsV K (tupsL (rng n) i) us H')
      (fun H2 e2 => ⟨p, [x], _, _, _, _, rfl, e1.trans e2, e2 _ _ hp, rfl, fun i u r h2 h3 => ?_⟩) (fun i σ' H2 hi ⟨p, us, y4, y5, y6, y7, hσ, e2, hp2, hr⟩ => ?_) (fun σ' H2 ⟨p, us, y4, y5, y6, y7, hσ, e2, hp2, hr⟩ => ?_)
    · cases i with
      | zero =>
        cases h2
        cases h3
        exact rw_imm _ _ _ _ (ExI.of e2) hx
      | succ i => simp at h2
    · subst hσ
      have hfl := lw (i + 1) (by omega)
      refine go_asgL (xs := []) (el_lst ea_nil (by decide)) fun p5 H3 hp5 e3 h5 => ?_
      have hsl : SqL K H2 p us := sq_of hp2
      refine go_forL (a := p) (xs := us) (ev_var rfl) (ex_l e3 hsl) (fun k σ' H' => ∃ (ws : List V) (y6 y7 : Option V), σ' = [some (.int (n : Int)), some (.int (w : Int)), some (.int (h : Int)), some (.ref p), some (.int (i : Int)), some (.ref p5), y6, y7, none, none, none, none] ∧ Ex H2 H' ∧ H' p5 = some (.lst ws) ∧ RwsV K (((tupsL (rng n) i).take k).flatMap fun t => (rng n).map fun x => t ++ [x]) ws H')
        (fun H4 e4 => ⟨[], _, _, rfl, e3.trans e4, e4 _ _ h5, by simp, fun i u r h2 => by simp at h2⟩) (fun k σ' H' _ ⟨_, _, _, _, e, _⟩ => ex_l e hsl) (fun k x σ' H4 hk ⟨ws, y6, y7, hσ, e4, h45, hw⟩ => ?_) (fun σ' H4 ⟨ws, y6, y7, hσ, e4, h45, hw⟩ => ?_)
      · subst hσ
        have hkl : k < (tupsL (rng n) i).length := by rw [← hr.1]; exact (List.getElem?_eq_some_iff.mp hk).1
        have ht : (tupsL (rng n) i)[k]? = some (tupsL (rng n) i)[k] := List.getElem?_eq_getElem hkl
        have hrow := hr.2 k x _ hk ht
        have hlt : ((tupsL (rng n) i)[k]).length ≤ 1000 := by have := (mem_tupsL.mp (List.getElem_mem hkl)).1; omega
        generalize (tupsL (rng n) i)[k] = t at *
        refine gl_forR1 (n := (n : Int)) (ea_cons (ev_var rfl) ea_nil) (by omega) (fun j σ' H' => ∃ (ws : List V) (y7 : Option V), σ' = [some (.int (n : Int)), some (.int (w : Int)), some (.int (h : Int)), some (.ref p), some (.int (i : Int)), some (.ref p5), some x, y7, none, none, none, none] ∧ Ex H2 H' ∧ H' p5 = some (.lst ws) ∧ RwsV K (((tupsL (rng n) i).take k).flatMap (fun t => (rng n).map fun x => t ++ [x]) ++ ((rng n).take j).map fun x => t ++ [x]) ws H')
          (fun H5 e5 => ⟨ws, _, rfl, e4.trans e5, e5 _ _ h45, by simpa using hw.imm (ExI.of e5)⟩) (fun j σ' H5 hj ⟨ws, y7, hσ, e5, h55, hw⟩ => ?_) (fun σ' H5 ⟨ws, y7, hσ, e5, h55, hw⟩ => ?_)
        · subst hσ
          have hx5 : RwV K t x H5 := rw_imm _ _ _ _ (ExI.of e5) hrow
          have hwl : ws.length ≤ 1000 := by
            rw [hw.1]
            exact Nat.le_trans (take_le_flat ht) hfl
          refine gl_appP h55 (ev_var rfl) (ep_rowC hx5 (ev_var rfl) (ev_var rfl) hlt) (by omega) fun v H6 e6 hv => fun H7 e7 => ?_
          refine ⟨ws ++ [v], _, rfl, ((e5.trans e6).mut hp5).trans e7, e7 _ _ upd_same, ?_⟩
          rw [tupsL_part ht (rng_get (show j < n by omega))]
          exact ((hw.imm (ExI.of e6)).snoc hv).imm ((ExI.upd (e6 _ _ h55)).trans (ExI.of e7))
        · subst hσ
          refine fun H6 e6 => ⟨ws, _, _, rfl, e5.trans e6, e6 _ _ h55, ?_⟩
          rw [tupsL_next ht, len_rng]
          exact hw.imm (ExI.of e6)
      · subst hσ
        rw [hr.1, List.take_length] at hw
        exact gl_asg (ev_var rfl) fun H5 e5 => ⟨p5, ws, _, _, _, _, rfl, (e2.trans e4).trans e5, e5 _ _ h45, hw.imm (ExI.of e5)⟩
    · subst hσ
      rw [Int.toNat_natCast] at hr
      have hp3 : SqL K H2 p us := sq_of hp2
      have hrl := lw w (Nat.le_refl w)
      have lb : ∀ i, i ≤ h → (tupsL (tupsL (rng n) w) i).length ≤ 1000 := fun i hi => by
        rw [len_tupsL, len_tupsL, len_rng, ← Nat.pow_mul]
        exact Nat.le_trans (pow_up n0 (Nat.mul_le_mul_left w hi)) hz
      have hmem : ∀ t ∈ tupsL (rng n) w, t.length ≤ 16 := fun t ht => by have := (mem_tupsL.mp ht).1; omega
      have hall : allB n h w = tupsL (tupsL (rng n) w) h := rfl
      generalize tupsL (rng n) w = R at *
      refine go_asgP (ep_lst1 (P := BdV K []) (bd_imm _) (ep_U (eu_tup (vs := []) ea_nil (by decide)) fun p H1 _ hp => ⟨p, [], rfl, st_of hp, rfl, fun i u r h2 => by simp at h2⟩)) fun v H3 e3 hv => ?_
      obtain ⟨p8, x, rfl, hp8, hx⟩ := hv
      refine go_forR1 (n := (h : Int)) (ea_cons (ev_var rfl) ea_nil) (by omega) (fun i σ' H' => ∃ (p8 : Addr) (bs : List V) (y6 y9 y10 y11 : Option V), σ' = [some (.int (n : Int)), some (.int (w : Int)), some (.int (h : Int)), some (.ref p), y4, y5, y6, y7, some (.ref p8), y9, y10, y11] ∧ Ex H2 H' ∧ H' p8 = some (.lst bs) ∧ BssV K (tupsL R i) bs H')
        (fun H4 e4 => ⟨p8, [x], _, _, _, _, rfl, e3.trans e4, e4 _ _ hp8, rfl, fun i u r h2 h3 => ?_⟩) (fun i σ' H4 hi ⟨p8, bs, y6, y9, y10, y11, hσ, e4, h84, hb⟩ => ?_) (fun σ' H4 ⟨p8, bs, y6, y9, y10, y11, hσ, e4, h84, hb⟩ => ?_)
      · cases i with
        | zero =>
          cases h2
          cases h3
          exact hx.up e4
        | succ i => simp at h2
      · subst hσ
        have hfl := lb (i + 1) (by omega)
        refine go_asgL (xs := []) (el_lst ea_nil (by decide)) fun p10 H5 hp10 e5 h5 => ?_
        have hsl : SqL K H4 p8 bs := sq_of h84
        refine go_forL (a := p8) (xs := bs) (ev_var rfl) (ex_l e5 hsl) (fun k σ' H' => ∃ (ws : List V) (y6 y11 : Option V), σ' = [some (.int (n : Int)), some (.int (w : Int)), some (.int (h : Int)), some (.ref p), y4, y5, y6, y7, some (.ref p8), some (.int (i : Int)), some (.ref p10), y11] ∧ Ex H4 H' ∧ H' p10 = some (.lst ws) ∧ BssV K (((tupsL R i).take k).flatMap fun t => R.map fun x => t ++ [x]) ws H')
          (fun H6 e6 => ⟨[], _, _, rfl, e5.trans e6, e6 _ _ h5, by simp, fun i u r h2 => by simp at h2⟩) (fun k σ' H' _ ⟨_, _, _, _, e, _⟩ => ex_l e hsl) (fun k x σ' H6 hk ⟨ws, y6, y11, hσ, e6, h6, hw⟩ => ?_) (fun σ' H6 ⟨ws, y6, y11, hσ, e6, h6, hw⟩ => ?_)
        · subst hσ
          have hkl : k < (tupsL R i).length := by rw [← hb.1]; exact (List.getElem?_eq_some_iff.mp hk).1
          have ht : (tupsL R i)[k]? = some (tupsL R i)[k] := List.getElem?_eq_getElem hkl
          have hbd := hb.2 k x _ hk ht
          have hlt : ((tupsL R i)[k]).length ≤ 1000 := by have := (mem_tupsL.mp (List.getElem_mem hkl)).1; omega
          generalize (tupsL R i)[k] = t at *
          refine gl_forLs (a := p) (xs := us) (ev_var rfl) (ex_l (e4.trans e6) hp3) (fun j σ' H' => ∃ (ws : List V) (y6 : Option V), σ' = [some (.int (n : Int)), some (.int (w : Int)), some (.int (h : Int)), some (.ref p), y4, y5, y6, y7, some (.ref p8), some (.int (i : Int)), some (.ref p10), some x] ∧ Ex H4 H' ∧ H' p10 = some (.lst ws) ∧ BssV K (((tupsL R i).take k).flatMap (fun t => R.map fun x => t ++ [x]) ++ (R.take j).map fun x => t ++ [x]) ws H')
            (fun H7 e7 => ⟨ws, _, rfl, e6.trans e7, e7 _ _ h6, by simpa using hw.up e7⟩) (fun k σ' H' _ ⟨_, _, _, e, _⟩ => ex_l (e4.trans e) hp3) (fun j x2 σ' H7 hj ⟨ws, y6, hσ, e7, h7, hw⟩ => ?_) (fun σ' H7 ⟨ws, y6, hσ, e7, h7, hw⟩ => ?_)
          · subst hσ
            have hjl : j < R.length := by rw [← hr.1]; exact (List.getElem?_eq_some_iff.mp hj).1
            have hrj : R[j]? = some R[j] := List.getElem?_eq_getElem hjl
            obtain ⟨ra, rfl, hra⟩ := hr.2 j x2 _ hj hrj
            have hwl : ws.length ≤ 1000 := by
              rw [hw.1]
              exact Nat.le_trans (take_le_flat ht) hfl
            refine gl_appP h7 (ev_var rfl) (ep_boardC (hbd.up e7) (ev_var rfl) (ex_t (e4.trans e7) hra) (ev_var rfl) hlt) (by omega) fun v H8 e8 hv => fun H9 e9 => ?_
            refine ⟨ws ++ [v], _, rfl, ((e7.trans e8).mut hp10).trans e9, e9 _ _ upd_same, ?_⟩
            rw [tupsL_part ht hrj]
            exact ((hw.up e8).snoc hv).imm ((ExI.upd (e8 _ _ h7)).trans (ExI.of e9))
          · subst hσ
            refine fun H8 e8 => ⟨ws, _, _, rfl, e7.trans e8, e8 _ _ h7, ?_⟩
            rw [hr.1] at hw
            rw [tupsL_next ht]
            exact hw.up e8
        · subst hσ
          rw [hb.1, List.take_length] at hw
          exact gl_asg (ev_var rfl) fun H7 e7 => ⟨p10, ws, _, _, _, _, rfl, (e4.trans e6).trans e7, e7 _ _ h6, hw.up e7⟩
      · subst hσ
        rw [Int.toNat_natCast] at hb
        exact go_ret (ev_var rfl) fun H5 e5 => q _ H5 ((e2.trans e4).trans e5) ⟨p8, bs, rfl, e5 _ _ h84, by rw [hall]; exact hb.up e5⟩
/-! #### number_of -/
def sp_number_of (K : PySem.W.Frag) : Sp := fun vs H Q _ => ∃ (v : V) (r : List Int) (c : Int), vs = [v, .int c] ∧ RwV K r v H ∧ 0 ≤ c ∧ c ≤ 3 ∧ RetV (.int (numM r c)) H Q
theorem spv_number_of {K : PySem.W.Frag} {H : Hp} {v : V} {r : List Int} {c : Int} (h : RwV K r v H) (h0 : 0 ≤ c) (h1 : c ≤ 3) : SpV (sp_number_of K) [v, .int c] H (.int (numM r c)) :=
  fun H1 e Q q E => ⟨v, r, c, rfl, rw_imm r v H H1 (ExI.of e) h, h0, h1, q⟩
local macro_rules | `(tactic| walk_at "sp") => `(tactic| (refine' spv_number_of ?h1 ?h2 ?h3; (case h1 => assumption); (case h2 => walk_at "le"); (case h3 => walk_at "le")))
theorem cal_number_of {P : Program} {w : World} {K : PySem.W.Frag} {mg : Str → Option Value} {base : Heap} {f : Addr} {fd : FuncData} (Bt : Bl mg) (D : DefAt K mg "number_of" s_number_of ["block", "colours"] f fd)  :
    CalE P w K mg base CX0 1 "number_of" ["block", "colours"] (sp_number_of K) := by
  refine ⟨f, fd, D.F.ok sc_number_of (fun vs H Q E h => ?_) (fun cdv A outer s H vs Q E hRm h => ?_), D.g, D.F.kp, D.b⟩
  · obtain ⟨v, r, c, rfl, _⟩ := h; rfl
  · obtain ⟨v, r, c, rfl, ⟨a, rfl, hS⟩, h0, h1, q⟩ := h
    refine ⟨_, (pss_cons (ps_set (i := 2) sc_number_of.nd rfl (Or.inl rfl) pe_int)
 (pss_cons (ps_for PassesOwn.never rfl (pi_tupK (K := K) rfl (pv 0)) (pg_name (i := 3) sc_number_of.nd rfl (Or.inl rfl))
 (pss_one (ps_set (i := 2) sc_number_of.nd rfl (Or.inl rfl) (pe_op op_add (pe_op op_mul (pv 2) (pv 1)) (pv 3)))))
 (pss_one (ps_ret (pv 2))))), Go.at ?_⟩
    refine go_asg ev_c ?_
    refine go_forT (a := a) (ev_var rfl) hS (fun i σ' H' => ∃ y, σ' = [some (.ref a), some (.int c), some (.int (numM (r.take i) c)), y] ∧ Ex H H') (fun H1 e => ⟨_, rfl, e⟩)
      (fun i σ' H' _ ⟨y, _, e⟩ => ex_t e hS) (fun i x σ' H' hi ⟨y, hσ, e⟩ => ?_) (fun σ' H' ⟨y, hσ, e⟩ => ?_)
    · subst hσ
      rw [List.getElem?_map] at hi
      obtain ⟨z, hz, rfl⟩ := Option.map_eq_some_iff.mp hi
      refine gl_asg (v := .int (numM (r.take i) c * c + z)) (by walk_at "ev") (fun H1 e1 => ⟨some (.int z), ?_, e.trans e1⟩)
      rw [numM_take hz]
      rfl
    · subst hσ
      rw [List.length_map, List.take_length]
      exact go_ret (ev_var rfl) fun H1 e1 => q H1 (e.trans e1)
/-! #### block_of -/
def sp_block_of (K : PySem.W.Frag) : Sp := fun vs H Q _ => ∃ (n c : Int), vs = [.int n, .int c] ∧ 0 < c ∧ c ≤ 3 ∧ RetP (RwV K (blockM n c)) H Q
theorem spp_block_of {K : PySem.W.Frag} {H : Hp} {n c : Int} (h0 : 0 < c) (h1 : c ≤ 3) : SpP (sp_block_of K) [.int n, .int c] H (RwV K (blockM n c)) := fun H1 e Q q E => ⟨n, c, rfl, h0, h1, q⟩
theorem cal_block_of {P : Program} {w : World} {K : PySem.W.Frag} {mg : Str → Option Value} {base : Heap} {f : Addr} {fd : FuncData} (Bt : Bl mg) (D : DefAt K mg "block_of" s_block_of ["number", "colours"] f fd)  :
    CalE P w K mg base CX0 1 "block_of" ["number", "colours"] (sp_block_of K) := by
  refine ⟨f, fd, D.F.ok sc_block_of (fun vs H Q E h => ?_) (fun cdv A outer s H vs Q E hRm h => ?_), D.g, D.F.kp, D.b⟩
  · obtain ⟨n, c, rfl, _⟩ := h; rfl
  · obtain ⟨n, c, rfl, h0, h1, q⟩ := h
    refine ⟨_, (pss_cons (ps_set (i := 2) sc_block_of.nd rfl (Or.inl rfl) (pe_lst pa_nil))
 (pss_cons (ps_for PassesOwn.never rfl (pi_range1 (by rfl) Bt.range_ (pa_cons pe_int pa_nil)) (pg_name (i := 3) sc_block_of.nd rfl (Or.inl rfl))
 (pss_cons (ps_expr (pe_bm PySem.F.plainAttrs_list PySem.F.slot_list_append PySem.F.type_list_append mt_append (pv 2) (pa_cons (pe_op op_mod (pv 0) (pv 1)) pa_nil)))
 (pss_one (ps_set (i := 0) sc_block_of.nd rfl (Or.inl rfl) (pe_op op_fdiv (pv 0) (pv 1))))))
 (pss_one (ps_ret (RT.pe_tupRev (by rfl) (by rfl) Bt.tuple_ (by rfl) Bt.reversed_ (pv 2)))))), Go.at ?_⟩
    refine go_asgL (el_lst ea_nil (by decide)) fun p H1 hp e1 h1p => ?_
    refine go_forR1 (n := 4) (by walk_at "ea") (by decide) (fun i σ' H' => ∃ y, σ' = [some (.int (quo n c i)), some (.int c), some (.ref p), y] ∧ Ex H H' ∧ H' p = some (.lst ((digs n c i).map V.int)))
      (fun H2 e2 => ⟨_, rfl, e1.trans e2, e2 _ _ h1p⟩) (fun i σ' H' hi ⟨y, hσ, e, hl⟩ => ?_) (fun σ' H' ⟨y, hσ, e, hl⟩ => ?_)
    · subst hσ
      refine go_app hl (ev_var rfl) (v := .int (quo n c i % c)) (by walk_at "ev") (by rw [List.length_map, digs_len]; omega) fun H2 e2 => ?_
      refine gl_asg (v := .int (quo n c i / c)) (by walk_at "ev") fun H3 e3 => ⟨_, rfl, ((e.trans e2).mut hp).trans e3, ?_⟩
      rw [e3 _ _ upd_same, digs, List.map_append]
      rfl
    · subst hσ
      refine go_retU (eu_rev (ev_var rfl) (sq_of hl)) fun l H2 _ e2 hl2 => q _ H2 (e.trans e2) ⟨l, rfl, st_of ?_⟩
      rw [hl2]
      rfl
/-! #### done -/
def sp_done (K : PySem.W.Frag) : Sp := fun vs H Q _ => ∃ (v : V) (a : Addr) (hh ww : Nat) (c : Int) (r : List Int) (f : Int → Int → Int) (m : Int), vs = [v, .ref a, .int c, .int m] ∧ BArg K H v a hh ww c r f ∧
  RetP (BdV K (mk (2 * hh) (2 * ww) (stepF (2 * (hh : Int)) (2 * (ww : Int)) c r m f))) H Q
theorem spp_done {K : PySem.W.Frag} {H : Hp} {v : V} {a : Addr} {hh ww : Nat} {c : Int} {r : List Int} {f : Int → Int → Int} {m : Int} (A : BArg K H v a hh ww c r f) : SpP (sp_done K) [v, .ref a, .int c, .int m] H (BdV K (mk (2 * hh) (2 * ww) (stepF (2 * (hh : Int)) (2 * (ww : Int)) c r m f))) :=
  fun H1 e Q q E => ⟨v, a, hh, ww, c, r, f, m, rfl, A.up e, q⟩
theorem cal_done {P : Program} {w : World} {K : PySem.W.Frag} {mg : Str → Option Value} {base : Heap} {f : Addr} {fd : FuncData} (Bt : Bl mg) (D : DefAt K mg "done" s_done ["board", "rule", "colours", "moment"] f fd) (C_number_of : CalE P w K mg base CX0 1 "number_of" ["block", "colours"] (sp_number_of K)) (C_block_of : CalE P w K mg base CX0 1 "block_of" ["number", "colours"] (sp_block_of K)) :
    CalE P w K mg base CX0 2 "done" ["board", "rule", "colours", "moment"] (sp_done K) := by
  obtain ⟨f_number_of, fd_number_of, G_number_of, g_number_of, k_number_of, b_number_of⟩ := C_number_of.ex
  obtain ⟨f_block_of, fd_block_of, G_block_of, g_block_of, k_block_of, b_block_of⟩ := C_block_of.ex
  refine ⟨f, fd, D.F.ok sc_done (fun vs H Q E h => ?_) (fun cdv A outer s H vs Q E hRm h => ?_), D.g, D.F.kp, D.b⟩
  · obtain ⟨v, a, hh, ww, c, r, f, m, rfl, _⟩ := h; rfl
  · obtain ⟨v, a, hh, ww, c, r, f, m, rfl, A, q⟩ := h
    obtain ⟨hn, hn2, hn3⟩ := n4_int A.c0 A.c1
    obtain ⟨a1, a2, a3, a4, c0, c1, hB, hbd, hR, hru⟩ := id A
    have hrl := hru.len
    have m0 := Int.emod_nonneg m (show (2 : Int) ≠ 0 by decide)
    have m1 := Int.emod_lt_of_pos m (show (0 : Int) < 2 by decide)
    have mm : (m % 2 - m) % 2 = 0 := by omega
    have ch : ((2 * hh : Nat) : Int) = 2 * (hh : Int) := by omega
    have cw : ((2 * ww : Nat) : Int) = 2 * (ww : Int) := by omega
    refine ⟨_, (pss_cons (ps_setLc (i := 4) (own := [("row", 13)]) (g := gName 13) (by rfl) sc_done.nd rfl rfl (sw_true rfl rfl rfl (by decide +kernel)) (pi_tupK (K := K) rfl (pv 0)) (blkOk_by (own := [("row", 13)]) (N := ["board", "rule", "colours", "moment", "rows", "height", "width", "y", "x", "low", "right", "block", "made", "row"]) (sc := defScope s_done) (by decide +kernel)) (fun _ _ _ _ _ => pg_name (i := 13) sc_done.nd rfl (Or.inl rfl)) (fun _ _ _ _ _ => pts_nil) (fun _ _ _ _ _ => (pe_callTy (call_listK (K := K) rfl) (by rfl) Bt.list_ (by decide +kernel) (pa_cons (pv 13) pa_nil))))
 (pss_cons (ps_set (i := 5) sc_done.nd rfl (Or.inl rfl) (pe_callB (call_lenK (K := K) rfl) (by rfl) Bt.len_ (by decide +kernel) (pa_cons (pv 4) pa_nil)))
 (pss_cons (ps_set (i := 6) sc_done.nd rfl (Or.inl rfl) (pe_callB (call_lenK (K := K) rfl) (by rfl) Bt.len_ (by decide +kernel) (pa_cons (pe_ix (ix_listK (K := K) rfl) (pv 4) pe_int (fun _ _ => rfl)) pa_nil)))
 (pss_cons (ps_for PassesOwn.never rfl (pi_range3 (by rfl) Bt.range_ (pa_cons (pe_op op_mod (pv 3) pe_int) (pa_cons (pv 5) (pa_cons pe_int pa_nil)))) (pg_name (i := 7) sc_done.nd rfl (Or.inl rfl))
 (pss_one (ps_for PassesOwn.never rfl (pi_range3 (by rfl) Bt.range_ (pa_cons (pe_op op_mod (pv 3) pe_int) (pa_cons (pv 6) (pa_cons pe_int pa_nil)))) (pg_name (i := 8) sc_done.nd rfl (Or.inl rfl))
 (pss_cons (ps_set (i := 9) sc_done.nd rfl (Or.inl rfl) (pe_op op_mod (pe_op op_add (pv 7) pe_int) (pv 5)))
 (pss_cons (ps_set (i := 10) sc_done.nd rfl (Or.inl rfl) (pe_op op_mod (pe_op op_add (pv 8) pe_int) (pv 6)))
 (pss_cons (ps_set (i := 11) sc_done.nd rfl (Or.inl rfl) (pe_tup (pa_cons (pe_ix (ix_tupK (K := K) rfl) (pe_ix (ix_tupK (K := K) rfl) (pv 0) (pv 7) (fun _ _ => rfl)) (pv 8) (fun _ _ => rfl)) (pa_cons (pe_ix (ix_tupK (K := K) rfl) (pe_ix (ix_tupK (K := K) rfl) (pv 0) (pv 7) (fun _ _ => rfl)) (pv 10) (fun _ _ => rfl)) (pa_cons (pe_ix (ix_tupK (K := K) rfl) (pe_ix (ix_tupK (K := K) rfl) (pv 0) (pv 9) (fun _ _ => rfl)) (pv 8) (fun _ _ => rfl)) (pa_cons (pe_ix (ix_tupK (K := K) rfl) (pe_ix (ix_tupK (K := K) rfl) (pv 0) (pv 9) (fun _ _ => rfl)) (pv 10) (fun _ _ => rfl)) pa_nil))))))
 (pss_cons (ps_set (i := 12) sc_done.nd rfl (Or.inl rfl) (pe_call G_block_of (hRm.mono (by decide)) (by rfl) g_block_of k_block_of b_block_of .nil pass0 (pa_cons (pe_ix (ix_listK (K := K) rfl) (pv 1) (pe_call G_number_of (hRm.mono (by decide)) (by rfl) g_number_of k_number_of b_number_of .nil pass0 (pa_cons (pv 11) (pa_cons (pv 2) pa_nil))) (fun _ _ => rfl)) (pa_cons (pv 2) pa_nil))))
 (pss_cons (ps_asg (pe_ix (ix_tupK (K := K) rfl) (pv 12) pe_int (fun _ _ => rfl)) (pg_sub (pe_ix (ix_listK (K := K) rfl) (pv 4) (pv 7) (fun _ _ => rfl)) (pv 8) set_list))
 (pss_cons (ps_asg (pe_ix (ix_tupK (K := K) rfl) (pv 12) pe_int (fun _ _ => rfl)) (pg_sub (pe_ix (ix_listK (K := K) rfl) (pv 4) (pv 7) (fun _ _ => rfl)) (pv 10) set_list))
 (pss_cons (ps_asg (pe_ix (ix_tupK (K := K) rfl) (pv 12) pe_int (fun _ _ => rfl)) (pg_sub (pe_ix (ix_listK (K := K) rfl) (pv 4) (pv 9) (fun _ _ => rfl)) (pv 8) set_list))
 (pss_one (ps_asg (pe_ix (ix_tupK (K := K) rfl) (pv 12) pe_int (fun _ _ => rfl)) (pg_sub (pe_ix (ix_listK (K := K) rfl) (pv 4) (pv 9) (fun _ _ => rfl)) (pv 10) set_list)))))))))))))
 (pss_one (ps_ret (pe_callTy (call_tupK (K := K) rfl) (by rfl) Bt.tuple_ (by decide +kernel) (pa_cons (pe_lc (own := [("row", 13)]) (g := gName 13) (by rfl) sc_done.nd (pi_listK (K := K) rfl (pv 4)) (blkOk_by (own := [("row", 13)]) (N := ["board", "rule", "colours", "moment", "rows", "height", "width", "y", "x", "low", "right", "block", "made", "row"]) (sc := defScope s_done) (by decide +kernel)) (fun _ _ _ _ _ => pg_name (i := 13) sc_done.nd rfl (Or.inl rfl)) (fun _ _ _ _ _ => pts_nil) (fun _ _ _ _ _ => (pe_callTy (call_tupK (K := K) rfl) (by rfl) Bt.tuple_ (by decide +kernel) (pa_cons (pv 13) pa_nil)))) pa_nil)))))))), Go.at ?_⟩
    refine go_asgG hB (by omega) (ev_var rfl) (fun _ => rfl) (fun _ => rfl) fun g as H1 hg e1 hf G => ?_
    refine go_asg (v := .int (2 * (hh : Int))) (ev_is (ev_lenG G (ev_var rfl)) (by rw [ch])) ?_
    refine go_asg (v := .int (2 * (ww : Int))) (ev_is (ev_wideG G (by omega) (ev_var rfl) ev_c) (by rw [cw])) ?_
    refine go_forR3 (lo := m % 2) (hi := 2 * (hh : Int)) (c := 2) (by walk_at "ea") (rgc2 m0 (by omega) a1 (by omega))
      (fun i σ' H' => ∃ y7 y8 y9 y10 y11 y12, σ' = [some v, some (.ref a), some (.int c), some (.int m), some (.ref g), some (.int (2 * (hh : Int))), some (.int (2 * (ww : Int))), y7, y8, y9, y10, y11, y12, none] ∧ Ex H H' ∧
        Grid H' g as (2 * hh) (2 * ww) (curF (2 * (hh : Int)) (2 * (ww : Int)) c r m f (m % 2 + (i : Int) * 2) (m % 2)))
      (fun H2 e2 => ⟨_, _, _, _, _, _, rfl, e1.trans e2, (G.up e2).congr fun y x y0 y1 x0 x1 => ?_⟩) (fun i σ' H' hi ⟨y7, y8, y9, y10, y11, y12, hσ, e, G⟩ => ?_) (fun σ' H' ⟨y7, y8, y9, y10, y11, y12, hσ, e, G⟩ => ?_)
    · rw [show m % 2 + ((0 : Nat) : Int) * 2 = m % 2 by omega, cur_first y0 (by omega) x0 (by omega)]
    · subst hσ
      have Y0 : 0 ≤ m % 2 + (i : Int) * 2 := by omega
      have Y1 : m % 2 + (i : Int) * 2 < 2 * (hh : Int) := by omega
      have pY : (m % 2 + (i : Int) * 2 - m) % 2 = 0 := by omega
      have eY : m % 2 + ((i + 1 : Nat) : Int) * 2 = m % 2 + (i : Int) * 2 + 2 := by omega
      rw [eY]
      generalize m % 2 + (i : Int) * 2 = Y at *
      refine gl_forR3 (lo := m % 2) (hi := 2 * (ww : Int)) (c := 2) (by walk_at "ea") (rgc2 m0 (by omega) a3 (by omega))
        (fun j σ' H' => ∃ y8 y9 y10 y11 y12, σ' = [some v, some (.ref a), some (.int c), some (.int m), some (.ref g), some (.int (2 * (hh : Int))), some (.int (2 * (ww : Int))), some (.int Y), y8, y9, y10, y11, y12, none] ∧ Ex H H' ∧
          Grid H' g as (2 * hh) (2 * ww) (curF (2 * (hh : Int)) (2 * (ww : Int)) c r m f Y (m % 2 + (j : Int) * 2)))
        (fun H2 e2 => ⟨_, _, _, _, _, rfl, e.trans e2, ?_⟩) (fun j σ' H2 hj ⟨y8, y9, y10, y11, y12, hσ, e2, G2⟩ => ?_) (fun σ' H2 ⟨y8, y9, y10, y11, y12, hσ, e2, G2⟩ => ?_)
      · rw [show m % 2 + ((0 : Nat) : Int) * 2 = m % 2 by omega]
        exact G.up e2
      · subst hσ
        clear G e
        have X0 : 0 ≤ m % 2 + (j : Int) * 2 := by omega
        have X1 : m % 2 + (j : Int) * 2 < 2 * (ww : Int) := by omega
        have pX : (m % 2 + (j : Int) * 2 - m) % 2 = 0 := by omega
        have eX : m % 2 + ((j + 1 : Nat) : Int) * 2 = m % 2 + (j : Int) * 2 + 2 := by omega
        rw [eX]
        generalize m % 2 + (j : Int) * 2 = X at *
        have l0 := Int.emod_nonneg (Y + 1) (show 2 * (hh : Int) ≠ 0 by omega)
        have l1 := Int.emod_lt_of_pos (Y + 1) (show (0 : Int) < 2 * (hh : Int) by omega)
        have r0 := Int.emod_nonneg (X + 1) (show 2 * (ww : Int) ≠ 0 by omega)
        have r1 := Int.emod_lt_of_pos (X + 1) (show (0 : Int) < 2 * (ww : Int) by omega)
        have cn := fun y x (y0 : 0 ≤ y) (y1 : y < 2 * (hh : Int)) (x0 : 0 ≤ x) (x1 : x < 2 * (ww : Int)) => cur_next (c := c) (r := r) (f := f) Y0 Y1 X0 X1 pY pX y0 y1 x0 x1
        have hnum : 0 ≤ numM [f Y X, f Y ((X + 1) % (2 * (ww : Int))), f ((Y + 1) % (2 * (hh : Int))) X, f ((Y + 1) % (2 * (hh : Int))) ((X + 1) % (2 * (ww : Int)))] c ∧ numM [f Y X, f Y ((X + 1) % (2 * (ww : Int))), f ((Y + 1) % (2 * (hh : Int))) X, f ((Y + 1) % (2 * (hh : Int))) ((X + 1) % (2 * (ww : Int)))] c < c * c * c * c :=
          num_rng c0 c1 (hbd _ _ (by omega) (by omega) (by omega) (by omega)) (hbd _ _ (by omega) (by omega) (by omega) (by omega)) (hbd _ _ (by omega) (by omega) (by omega) (by omega)) (hbd _ _ (by omega) (by omega) (by omega) (by omega))
        refine go_asg (v := .int ((Y + 1) % (2 * (hh : Int)))) (by walk_at "ev") ?_
        refine go_asg (v := .int ((X + 1) % (2 * (ww : Int)))) (by walk_at "ev") ?_
        have hB2 := hB.up e2
        have hR2 := ex_l e2 hR
        generalize (Y + 1) % (2 * (hh : Int)) = lo at *
        generalize (X + 1) % (2 * (ww : Int)) = ri at *
        refine go_asgU (eu_tup (vs := [.int (f Y X), .int (f Y ri), .int (f lo X), .int (f lo ri)]) (by walk_at "ea") (by show (4 : Nat) ≤ 100000; decide)) fun p H3 _ e3 h3 => ?_
        have hrow : RwV K [f Y X, f Y ri, f lo X, f lo ri] (.ref p) H3 := ⟨p, rfl, st_of h3⟩
        have hR3 := ex_l e3 hR2
        refine go_asgP (ep_call (ea_cons (ev_ixLI (ev_var rfl) (ev_call (ea_cons (ev_var rfl) (ea_cons (ev_var rfl) ea_nil)) (spv_number_of hrow (by omega) c1)) hR3 hnum.1 (by omega)) (ea_cons (ev_var rfl) ea_nil)) (spp_block_of (by omega) c1)) fun v4 H4 e4 h4 => ?_
        obtain ⟨b, rfl, hb⟩ := h4
        have G4 := G2.up (e3.trans e4)
        have e4' : Ex H H4 := (e2.trans e3).trans e4
        dsimp only at cn
        have hm : (blockM (at0 r (numM [f Y X, f Y ri, f lo X, f lo ri] c)) c).length = 4 := rfl
        generalize blockM (at0 r (numM [f Y X, f Y ri, f lo X, f lo ri] c)) c = made at *
        refine go_grid G4 (ev_ixTI (ev_var rfl) ev_c hb (by decide) (by omega)) (ev_var rfl) (ev_var rfl) (ev_var rfl) Y0 (by omega) X0 (by omega) fun H5 H6 e5 k5 x5 G6 => ?_
        have e6 := ex_keep hf (e4'.trans e5) k5
        have hb6 := x5.seqT hb
        refine go_grid G6 (ev_ixTI (ev_var rfl) ev_c hb6 (by decide) (by omega)) (ev_var rfl) (ev_var rfl) (ev_var rfl) Y0 (by omega) r0 (by omega) fun H7 H8 e7 k7 x7 G8 => ?_
        have e8 := ex_keep hf (e6.trans e7) k7
        have hb8 := x7.seqT hb6
        refine go_grid G8 (ev_ixTI (ev_var rfl) ev_c hb8 (by decide) (by omega)) (ev_var rfl) (ev_var rfl) (ev_var rfl) l0 (by omega) X0 (by omega) fun H9 H10 e9 k9 x9 G10 => ?_
        have e10 := ex_keep hf (e8.trans e9) k9
        have hb10 := x9.seqT hb8
        refine gl_grid G10 (ev_ixTI (ev_var rfl) ev_c hb10 (by decide) (by omega)) (ev_var rfl) (ev_var rfl) (ev_var rfl) l0 (by omega) r0 (by omega) fun H11 H12 e11 k11 x11 G12 => fun H13 e13 => ?_
        refine ⟨_, _, _, _, _, rfl, (ex_keep hf (e10.trans e11) k11).trans e13, (G12.up e13).congr fun y x y0 y1 x0 x1 => ?_⟩
        exact cn y x y0 (by omega) x0 (by omega)
      · subst hσ
        refine fun H3 e3 => ⟨_, _, _, _, _, _, rfl, e2.trans e3, (G2.up e3).congr fun y x y0 y1 x0 x1 => ?_⟩
        exact cur_row (by omega) pY y0 (by omega) x0 (by omega) (m % 2) (by omega)
    · subst hσ
      refine go_retP (ep_gridT (G.congr (c2 := stepF (2 * (hh : Int)) (2 * (ww : Int)) c r m f) fun y x y0 y1 x0 x1 => cur_last (by omega) y0 (by omega)) (by omega) (ev_var rfl) (fun _ => rfl) (fun _ => rfl)) fun v H2 e2 p => q v H2 (e.trans e2) p
/-! #### forward -/
def sp_forward (K : PySem.W.Frag) : Sp := fun vs H Q _ => ∃ (v : V) (a : Addr) (hh ww : Nat) (c : Int) (r : List Int) (f : Int → Int → Int) (m : Int) (n : Nat), vs = [v, .ref a, .int c, .int m, .int (n : Int)] ∧ BArg K H v a hh ww c r f ∧ n ≤ 1000 ∧
  RetP (BdV K (mk (2 * hh) (2 * ww) (runF (2 * (hh : Int)) (2 * (ww : Int)) c r m n f))) H Q
theorem spp_forward {K : PySem.W.Frag} {H : Hp} {v : V} {a : Addr} {hh ww : Nat} {c : Int} {r : List Int} {f : Int → Int → Int} {m : Int} {n : Nat} (A : BArg K H v a hh ww c r f) (hn : n ≤ 1000) : SpP (sp_forward K) [v, .ref a, .int c, .int m, .int (n : Int)] H (BdV K (mk (2 * hh) (2 * ww) (runF (2 * (hh : Int)) (2 * (ww : Int)) c r m n f))) :=
  fun H1 e Q q E => ⟨v, a, hh, ww, c, r, f, m, n, rfl, A.up e, hn, q⟩
theorem cal_forward {P : Program} {w : World} {K : PySem.W.Frag} {mg : Str → Option Value} {base : Heap} {f : Addr} {fd : FuncData} (Bt : Bl mg) (D : DefAt K mg "forward" s_forward ["board", "rule", "colours", "moment", "steps"] f fd) (C_done : CalE P w K mg base CX0 2 "done" ["board", "rule", "colours", "moment"] (sp_done K)) :
    CalE P w K mg base CX0 3 "forward" ["board", "rule", "colours", "moment", "steps"] (sp_forward K) := by
  obtain ⟨f_done, fd_done, G_done, g_done, k_done, b_done⟩ := C_done.ex
  refine ⟨f, fd, D.F.ok sc_forward (fun vs H Q E h => ?_) (fun cdv A outer s H vs Q E hRm h => ?_), D.g, D.F.kp, D.b⟩
  · obtain ⟨v, a, hh, ww, c, r, f, m, n, rfl, _⟩ := h; rfl
  · obtain ⟨v, a, hh, ww, c, r, f, m, n, rfl, A, hn, q⟩ := h
    have a1 := A.h1
    have a2 := A.h2
    refine ⟨_, (pss_cons (ps_for PassesOwn.never rfl (pi_range1 (by rfl) Bt.range_ (pa_cons (pv 4) pa_nil)) (pg_name (i := 5) sc_forward.nd rfl (Or.inl rfl))
 (pss_one (ps_set (i := 0) sc_forward.nd rfl (Or.inl rfl) (pe_call G_done (hRm.mono (by decide)) (by rfl) g_done k_done b_done .nil pass0 (pa_cons (pv 0) (pa_cons (pv 1) (pa_cons (pv 2) (pa_cons (pe_op op_add (pv 3) (pv 5)) pa_nil))))))))
 (pss_one (ps_ret (pe_callTy (call_tupK (K := K) rfl) (by rfl) Bt.tuple_ (by decide +kernel) (pa_cons (pe_lc (own := [("row", 6)]) (g := gName 6) (by rfl) sc_forward.nd (pi_tupK (K := K) rfl (pv 0)) (blkOk_by (own := [("row", 6)]) (N := ["board", "rule", "colours", "moment", "steps", "k", "row"]) (sc := defScope s_forward) (by decide +kernel)) (fun _ _ _ _ _ => pg_name (i := 6) sc_forward.nd rfl (Or.inl rfl)) (fun _ _ _ _ _ => pts_nil) (fun _ _ _ _ _ => (pe_callTy (call_tupK (K := K) rfl) (by rfl) Bt.tuple_ (by decide +kernel) (pa_cons (pv 6) pa_nil)))) pa_nil))))), Go.at ?_⟩
    refine go_forR1 (n := (n : Int)) (by walk_at "ea") (by omega) (fun i σ' H' => ∃ v y, σ' = [some v, some (.ref a), some (.int c), some (.int m), some (.int (n : Int)), y, none] ∧ Ex H H' ∧ BdV K (mk (2 * hh) (2 * ww) (runF (2 * (hh : Int)) (2 * (ww : Int)) c r m i f)) v H')
      (fun H1 e => ⟨v, _, rfl, e, A.hB.up e⟩) (fun i σ' H' hi ⟨v, y, hσ, e, hv⟩ => ?_) (fun σ' H' ⟨v, y, hσ, e, hv⟩ => ?_)
    · subst hσ
      have A' : BArg K H' v a hh ww c r (runF (2 * (hh : Int)) (2 * (ww : Int)) c r m i f) := ⟨A.h1, A.h2, A.w1, A.w2, A.c0, A.c1, hv, bnd_run A.c0 A.bd i, ex_l e A.hR, A.hr⟩
      refine gl_asgP (ep_call (by walk_at "ea") (spp_done (m := m + i) A')) fun v2 H2 e2 h2 => fun H3 e3 => ⟨v2, _, rfl, (e.trans e2).trans e3, BdV.up e3 h2⟩
    · subst hσ
      exact go_retP (ep_boardT hv (by omega) (ev_var rfl) (fun _ => rfl) (fun _ => rfl)) fun v H2 e2 p => q v H2 (e.trans e2) p
/-! #### rings -/
def sp_rings (K : PySem.W.Frag) : Sp := fun vs H Q E => ∃ (a : Addr) (r : List Int) (n hh ww : Nat), vs = [.ref a, .int (n : Int), .int ((2 * ww : Nat) : Int), .int ((2 * hh : Nat) : Int)] ∧ H a = some (.lst (r.map V.int)) ∧ 2 ≤ n ∧ n ≤ 3 ∧ IsRule (n4 (n : Int)) r ∧ 1 ≤ hh ∧ hh ≤ 8 ∧ 1 ≤ ww ∧ ww ≤ 8 ∧
  (n ^ (2 * ww * (2 * hh)) ≤ 300 → RetP (LtV K (histC (ringF hh ww (n : Int) r) (allB n (2 * hh) (2 * ww)))) H Q) ∧ (300 < n ^ (2 * ww * (2 * hh)) → RaiseE K "TooMany" H E)
set_option maxHeartbeats 1000000 in
theorem cal_rings {P : Program} {w : World} {K : PySem.W.Frag} {mg : Str → Option Value} {base : Heap} {f : Addr} {fd : FuncData} (Bt : Bl mg) (D : DefAt K mg "rings" s_rings ["rule", "colours", "width", "height"] f fd) {C_BlockError C_TooLong C_TooMany : Addr} (Cl : Cls K mg C_BlockError C_TooLong C_TooMany) {V_MOST_BOARDS : Tok} (C_MOST_BOARDS : mg "MOST_BOARDS" = some (Value.int 300 V_MOST_BOARDS)) (C_count_of : CalE P w K mg base CX0 1 "count_of" ["colours", "cells"] (sp_count_of K)) (C_all_boards : CalE P w K mg base CX0 1 "all_boards" ["colours", "width", "height"] (sp_all_boards K)) (C_forward : CalE P w K mg base CX0 3 "forward" ["board", "rule", "colours", "moment", "steps"] (sp_forward K)) :
    CalE P w K mg base (L2.CX P w) 4 "rings" ["rule", "colours", "width", "height"] (sp_rings K) := by
  obtain ⟨f_count_of, fd_count_of, G_count_of, g_count_of, k_count_of, b_count_of⟩ := C_count_of.ex
  obtain ⟨f_all_boards, fd_all_boards, G_all_boards, g_all_boards, k_all_boards, b_all_boards⟩ := C_all_boards.ex
  obtain ⟨f_forward, fd_forward, G_forward, g_forward, k_forward, b_forward⟩ := C_forward.ex
  refine ⟨f, fd, D.F.okX sc_rings (fun vs H Q E h => ?_) (fun cdv A outer s H vs Q E hRm h => ?_), D.g, D.F.kp, D.b⟩
  · obtain ⟨a, r, n, hh, ww, rfl, _⟩ := h; rfl
  · obtain ⟨a, r, n, hh, ww, rfl, hS, n0, n1, hr, h1, h2, w1, w2, q, qe⟩ := h
    refine ⟨_, (pss_cons (ps_if (pt_cmpR op_gt (pe_call G_count_of (hRm.mono (by decide)) (by rfl) g_count_of k_count_of b_count_of .nil pass0 (pa_cons (pv 1) (pa_cons (pe_op op_mul (pv 2) (pv 3)) pa_nil))) (pe_glob (v := .int 300) rfl C_MOST_BOARDS ⟨_, rfl⟩) (nomark _)) (pss_one (ps_raise rfl (takes_of rfl rfl rfl rfl) (pmk_own PySem.F.excBase_ValueError Cl.TooMany.xP Cl.TooMany.gP Cl.TooMany.kP (raises_own Cl.TooMany.bP Cl.TooMany.tP) (by rfl)))) pss_nil)
 (pss_cons (ps_set (i := 4) sc_rings.nd rfl (Or.inl rfl) (pe_newB (P := P) (w := w) (K := K) rfl rfl))
 (pss_cons (ps_set (i := 5) sc_rings.nd rfl (Or.inr rfl) pe_dnewK)
 (pss_cons (ps_for (passes_of rfl) rfl (pi_listK (K := K) rfl (pe_call G_all_boards (hRm.mono (by decide)) (by rfl) g_all_boards k_all_boards b_all_boards .nil pass0 (pa_cons (pv 1) (pa_cons (pv 2) (pa_cons (pv 3) pa_nil))))) (pg_name (i := 6) sc_rings.nd rfl (Or.inl rfl))
 (pss_cons (ps_set (i := 7) sc_rings.nd rfl (Or.inl rfl) pe_int)
 (pss_cons (ps_set (i := 8) sc_rings.nd rfl (Or.inl rfl) (pv 6))
 (pss_cons (ps_while (passes_of rfl) (pt_cmpR (op_notInB (P := P) (w := w) (K := K) rfl rfl rfl hRm.units) (pv 8) (pv 4) (by rfl))
 (pss_cons (ps_putB (P := P) (w := w) (K := K) rfl rfl rfl hRm.units (pv 4) (pv 8) pe_bl rfl)
 (pss_cons (ps_set (i := 7) sc_rings.nd rfl (Or.inl rfl) (pe_op op_add (pv 7) pe_int))
 (pss_one (ps_set (i := 8) sc_rings.nd rfl (Or.inl rfl) (pe_call G_forward (hRm.mono (by decide)) (by rfl) g_forward k_forward b_forward .nil pass0 (pa_cons (pv 8) (pa_cons (pv 0) (pa_cons (pv 1) (pa_cons pe_int (pa_cons pe_int pa_nil)))))))))))
 (pss_one (ps_if (pt_cmpR op_gt (pv 7) pe_int (nomark _)) (pss_one (ps_dput (hu_of hRm) (pv 5) (pv 7) (pe_op op_add (pe_dget2 (hu_of hRm) (pv 5) (pv 7) pe_int ⟨rfl, rfl, rfl, rfl⟩) pe_int) rfl)) pss_nil))))))
 (pss_one (ps_ret (pe_lc (own := [("length", 7)]) (g := gName 7) (by rfl) sc_rings.nd (pi_listK (K := K) rfl (pe_callB (cr_srtD rfl) (by rfl) Bt.sorted_ (by decide +kernel) (pa_cons (pv 5) pa_nil))) (blkOk_by (own := [("length", 7)]) (N := ["rule", "colours", "width", "height", "seen", "lengths", "board", "length", "here"]) (sc := defScope s_rings) (by decide +kernel)) (fun _ _ _ _ _ => pg_name (i := 7) sc_rings.nd rfl (Or.inl rfl)) (fun _ _ _ _ _ => pts_nil) (fun _ _ _ _ _ => (pe_tup (pa_cons (pv 7) (pa_cons (pe_dget (hu_of hRm) (pv 5) (pv 7) (fun _ _ => rfl)) pa_nil))))))))))), Go.at ?_⟩
    have hwh : 2 * ww * (2 * hh) ≤ 16 * 16 := Nat.mul_le_mul (by omega) (by omega)
    refine go_whenb (b := decide (300 < n ^ (2 * ww * (2 * hh)))) ?_ (fun hb => fun H1 e1 => qe (of_decide_eq_true hb) _ Cl.TooMany.nP H1 e1) (fun hb => ?_)
    · refine et_test (ev_opP (P := CntP n (2 * ww * (2 * hh))) (P2 := fun v _ => v = .int 300) (fun v H H' _ h => h) (ep_call (ea_cons (ev_var rfl) (ea_cons (ev_is (v := .int (((2 * ww : Nat) : Int) * ((2 * hh : Nat) : Int))) (by walk_at "ev") (by rw [Int.natCast_mul (2 * ww) (2 * hh)])) ea_nil)) (spp_count_of n0 n1 (by omega))) (ep_of ev_c fun _ _ => rfl) (fun v u H1 e ⟨M, hv, hM⟩ hu => ?_))
      rw [hv, hu]
      have := rv_I0 (g := fun i j => V.bl (decide (j < i))) (i := (M : Int)) (j := 300) (H := H1)
      rwa [show decide ((300 : Int) < (M : Int)) = decide (300 < n ^ (2 * ww * (2 * hh))) from decide_eq_decide.mpr (by omega)] at this
    have hsm : n ^ (2 * ww * (2 * hh)) ≤ 300 := by have := of_decide_eq_false hb; omega
    have q := q hsm
    clear qe hb
    have c0 : (2 : Int) ≤ (n : Int) := by omega
    have c1 : (n : Int) ≤ 3 := by omega
    have PF := ring_perm (hh := hh) (ww := ww) (n := n) rfl c0 c1 hr
    have hXl : (allB n (2 * hh) (2 * ww)).length ≤ 300 := by rw [len_allB]; exact hsm
    have hXm : ∀ B ∈ allB n (2 * hh) (2 * ww), ∃ f, Bnd (2 * hh) (2 * ww) (n : Int) f ∧ B = mk (2 * hh) (2 * ww) f := fun B hB => ⟨_, (allB_mk hB).1, (allB_mk hB).2⟩
    refine go_newB fun d H1 hd e1 hs1 => ?_
    refine go_newD fun e H2 he e2 h2e => ?_
    have hs2 := hs1.up e2
    have he0 : H e = none := fresh_back e1 he
    have nde : d ≠ e := by
      obtain ⟨xs, z, _⟩ := hs1
      exact ne_of_none z he
    have nad : a ≠ d := ne_of_none hS hd
    have nae : a ≠ e := ne_of_none hS he0
    refine go_forC (P := BsV K (allB n (2 * hh) (2 * ww))) (ep_call (ea_cons (ev_var rfl) (ea_cons (ev_var rfl) (ea_cons (ev_var rfl) ea_nil))) (spp_all_boards (by omega) n1 (by omega) (by omega) (by omega) (by omega))) fun v H3 e3 hv => ?_
    obtain ⟨p, us, rfl, hp, hus⟩ := hv
    have hs3 := hs2.up e3
    have h3e := e3 _ _ h2e
    have hS3 := ((e1.trans e2).trans e3) _ _ hS
    obtain ⟨xs3, hxs3, _⟩ := id hs3
    have npd : p ≠ d := ne_of hp hxs3 (fun z => nomatch z)
    have npe : p ≠ e := ne_of hp h3e (fun z => nomatch z)
    have hT : ∀ H', ExB d e H3 H' → ExT H3 H' := fun H' y => y.t hxs3 h3e (fun _ z => nomatch z) (fun _ _ z => nomatch z)
    generalize hX : allB n (2 * hh) (2 * ww) = X at *
    generalize hF : ringF hh ww (n : Int) r = F at *
    refine go_forL (a := p) (xs := us) ev_c (sq_of hp) (fun i σ' H' => ∃ (S : List (List (List Int))) (Ls : List Nat) (kvs : List (Key × V)) (y6 y7 y8 : Option V), σ' = [some (.ref a), some (.int (n : Int)), some (.int ((2 * ww : Nat) : Int)), some (.int ((2 * hh : Nat) : Int)), some (.ref d), some (.ref e), y6, y7, y8] ∧
        ExB d e H3 H' ∧ Seen P w K H' d S ∧ H' e = some (.dK kvs) ∧ LenD kvs Ls ∧ Told F X S Ls ∧ ∀ (j : Nat) B, j < i → X[j]? = some B → B ∈ S)
      (fun H4 e4 => ⟨[], [], [], _, _, _, rfl, ExB.of e4, hs3.up e4, e4 _ _ h3e, LenD.nil, Told.none, fun j B hj => by omega⟩) (fun i σ' H' _ ⟨_, _, _, _, _, _, _, y, _⟩ => sq_of (y _ _ npd npe hp)) (fun i x σ' H4 hi ⟨S, Ls, kvs, y6, y7, y8, hσ, x4, hs4, h4e, hL, hT4, hj4⟩ => ?_) (fun σ' H4 ⟨S, Ls, kvs, y6, y7, y8, hσ, x4, hs4, h4e, hL, hT4, hj4⟩ => ?_)
    · subst hσ
      have hil : i < X.length := by rw [← hus.1]; exact (List.getElem?_eq_some_iff.mp hi).1
      have hXi : X[i]? = some X[i] := List.getElem?_eq_getElem hil
      have hBX : X[i] ∈ X := List.getElem_mem hil
      have hBd : BdV K X[i] x H4 := (hus.2 i x _ hi hXi).ext (hT _ x4)
      generalize X[i] = B at *
      have nxt : ∀ (S' : List (List (List Int))), (∀ y ∈ S, y ∈ S') → B ∈ S' → ∀ (j : Nat) C, j < i + 1 → X[j]? = some C → C ∈ S' := fun S' h1 h2 j C hj hC => by
        rcases Nat.lt_or_ge j i with z | z
        · exact h1 _ (hj4 j C z hC)
        · obtain rfl : j = i := by omega
          rw [hXi] at hC
          cases hC
          exact h2
      refine go_asg (v := .int ((0 : Nat) : Int)) ev_c ?_
      refine go_asg (ev_var rfl) ?_
      by_cases hB : B ∈ S
      · refine go_while (fun m σ' H' => σ' = [some (.ref a), some (.int (n : Int)), some (.int ((2 * ww : Nat) : Int)), some (.int ((2 * hh : Nat) : Int)), some (.ref d), some (.ref e), some x, some (.int ((0 : Nat) : Int)), some x] ∧ Ex H4 H') 0 (fun H5 e5 => ⟨rfl, e5⟩) (fun m σ' H5 ⟨hσ, e5⟩ => ?_)
        subst hσ
        refine ⟨!decide (B ∈ S), et_test (ev_op (ev_var rfl) (ev_var rfl) (rv_notInB (hBd.up e5) (hs4.up e5))), (fun z => by rw [decide_eq_true hB] at z; cases z), fun _ => ?_⟩
        refine gl_when (p := (0 : Int) < ((0 : Nat) : Int)) (et_test (ev_op (ev_var rfl) ev_c rv_I0)) (fun z => absurd z (by decide)) (fun _ => fun H6 e6 => ?_)
        have e56 := e5.trans e6
        exact ⟨S, Ls, kvs, _, _, _, rfl, x4.trans (ExB.of e56), hs4.up e56, e56 _ _ h4e, hL, hT4, nxt S (fun _ h => h) hB⟩
      · have hSl := len_sub hT4.cl.nd hT4.cl.sub
        refine go_while (fun m σ' H' => ∃ (k : Nat) (v : V), σ' = [some (.ref a), some (.int (n : Int)), some (.int ((2 * ww : Nat) : Int)), some (.int ((2 * hh : Nat) : Int)), some (.ref d), some (.ref e), some x, some (.int (k : Int)), some v] ∧
            ExB d e H3 H' ∧ Seen P w K H' d (S ++ orb F B k) ∧ H' e = some (.dK kvs) ∧ BdV K (itr F k B) v H' ∧ Walk F X S B k ∧ m = X.length - (S.length + k)) _
          (fun H5 e5 => ⟨0, x, rfl, x4.trans (ExB.of e5), by simpa [orb] using hs4.up e5, e5 _ _ h4e, hBd.up e5, ⟨hB, hBX, fun j h1 h2 => by omega⟩, rfl⟩) (fun m σ' H5 ⟨k, v, hσ, x5, hs5, h5e, hv5, W, hm⟩ => ?_)
        subst hσ
        have hle := W.le PF hT4.cl
        refine ⟨!decide (itr F k B ∈ S ++ orb F B k), et_test (ev_op (ev_var rfl) (ev_var rfl) (rv_notInB hv5 hs5)), fun z => ?_, fun z => ?_⟩
        · have hnew : itr F k B ∉ S ++ orb F B k := by
            rw [Bool.not_eq_true', decide_eq_false_iff_not] at z
            exact z
          have W2 := W.next hnew
          have hle2 := W2.le PF hT4.cl
          refine ⟨fun σ' H' => ∃ (v : V), σ' = [some (.ref a), some (.int (n : Int)), some (.int ((2 * ww : Nat) : Int)), some (.int ((2 * hh : Nat) : Int)), some (.ref d), some (.ref e), some x, some (.int ((k + 1 : Nat) : Int)), some v] ∧
              ExB d e H3 H' ∧ Seen P w K H' d (S ++ orb F B (k + 1)) ∧ H' e = some (.dK kvs) ∧ BdV K (itr F (k + 1) B) v H', fun σ2 H6 ⟨v2, a1, a2, a3, a4, a5⟩ => ⟨X.length - (S.length + (k + 1)), by omega, k + 1, v2, a1, a2, a3, a4, a5, W2, rfl⟩, ?_⟩
          refine go_putB (ev_var rfl) (ev_var rfl) ev_c hv5 hs5 hnew (by rw [List.length_append, len_orb]; omega) fun H6 o e6 t6 hs6 => ?_
          have x6 : ExB d e H3 (upd H6 d o) := fun b ob b1 b2 hb => by rw [upd_ne b1]; exact e6 _ _ (x5 _ _ b1 b2 hb)
          have h6e : (upd H6 d o) e = some (.dK kvs) := by rw [upd_ne (Ne.symm nde)]; exact e6 _ _ h5e
          have hv6 : BdV K (itr F k B) v (upd H6 d o) := (hv5.up e6).ext t6
          have hS6 := x6 _ _ nad nae hS3
          generalize upd H6 d o = H7 at *
          refine go_asg (v := .int ((k + 1 : Nat) : Int)) (ev_is (v := .int ((k : Int) + 1)) (ev_op (ev_var rfl) ev_c rv_I0) (by rfl)) ?_
          obtain ⟨f, hf, ef⟩ := hXm _ (PF.itr_mem hBX k)
          rw [ef] at hv6
          have A : BArg K H7 v a hh ww (n : Int) r f := ⟨h1, h2, w1, w2, c0, c1, hv6, hf, sq_of hS6, hr⟩
          refine gl_asgP (ep_call (vs := [v, .ref a, .int (n : Int), .int 0, .int ((2 : Nat) : Int)]) (ea_cons (ev_var rfl) (ea_cons (ev_var rfl) (ea_cons (ev_var rfl) (ea_cons ev_c (ea_cons ev_c ea_nil))))) (spp_forward (m := 0) (n := 2) A (by decide))) fun v2 H8 e8 hv8 => fun H9 e9 => ?_
          have e79 := e8.trans e9
          refine ⟨v2, rfl, x6.trans (ExB.of e79), ?_, e79 _ _ h6e, ?_⟩
          · rw [orb_succ, ← List.append_assoc]
            exact hs6.up e79
          · show BdV K (F (itr F k B)) v2 H9
            rw [ef, ← hF, ringF_mk]
            exact hv8.up e9
        · have hmet : itr F k B ∈ S ++ orb F B k := by
            rw [Bool.not_eq_false', decide_eq_true_eq] at z
            exact z
          have hper := W.end PF hT4.cl hmet
          have hk1 := (perB_iff.mp hper).1
          refine gl_when (p := (0 : Int) < (k : Int)) (et_test (ev_op (ev_var rfl) ev_c rv_I0)) (fun _ => ?_) (fun z => absurd (show (0 : Int) < (k : Int) by omega) z)
          have hkl := hL.len
          have hLl : Ls.length ≤ 1000 := by
            have := hT4.sum
            have := len_le_sum Ls hT4.pos
            omega
          refine gl_dput (n := k) (v := .int ((Ls.count k : Int) + 1)) (ev_var rfl) (ev_var rfl) (ev_op (ev_get0 (ev_var rfl) (ev_var rfl) ev_c h5e hL) ev_c rv_I0) h5e (by omega) fun H6 e6 => fun H7 e7 => ?_
          have t6 : ExT H6 (upd H6 e (.dK (putK kvs (keyN k) (.int ((Ls.count k : Int) + 1))))) := ExT.dk (e6 _ _ h5e)
          refine ⟨S ++ orb F B k, Ls ++ [k], putK kvs (keyN k) (.int ((Ls.count k : Int) + 1)), _, _, _, rfl, fun b ob b1 b2 hb => e7 _ _ (by rw [upd_ne b2]; exact e6 _ _ (x5 _ _ b1 b2 hb)), ((hs5.up e6).other nde t6).up e7, e7 _ _ upd_same, hL.put k, hT4.ring PF W hper, nxt _ (fun y hy => List.mem_append.mpr (.inl hy)) (List.mem_append.mpr (.inr (mem_orb.mpr ⟨0, hk1, rfl⟩)))⟩
    · subst hσ
      rw [hus.1] at hj4
      have pm : S.Perm X := (sub_perm PF.nd (fun B hB => by
        obtain ⟨j, hj, e⟩ := List.getElem_of_mem hB
        exact hj4 j B hj (by rw [← e]; exact List.getElem?_eq_getElem hj)) (len_sub hT4.cl.nd hT4.cl.sub)).symm
      have hsum : Ls.sum ≤ 1000 := by rw [hT4.sum, pm.length_eq]; omega
      have hist := hT4.hist pm (srtL_sorted Ls) (fun k => mem_srtL)
      refine go_retP (ep_LP (elp_NL (P := fun i => RwV K [(((srtL Ls).getD i 0 : Nat) : Int), (Ls.count ((srtL Ls).getD i 0) : Int)]) (fun i => rw_imm _) (el_srtD (ev_var rfl) h4e hL hT4.pos hsum) (by unfold srtI; rw [List.length_map, List.length_map]; have := srtL_few hT4.pos hsum; omega) (fun _ => rfl) fun i x hi => ?_)) fun v H5 e5 ⟨p5, vs, hv, h5, hl5, hP⟩ => ?_
      · obtain ⟨m, hm, rfl⟩ := srtI_get hi
        have em : (srtL Ls).getD i 0 = m := by rw [List.getD_eq_getElem?_getD, hm]; rfl
        rw [em]
        exact ep_U (eu_tup (vs := [.int (m : Int), .int (Ls.count m : Int)]) (ea_cons (ev_var rfl) (ea_cons (ev_dget (ev_var rfl) (ev_var rfl) h4e hL (mem_srtL.mp (List.mem_of_getElem? hm))) ea_nil)) (by show (2 : Nat) ≤ 100000; decide)) fun t H6 _ ht => ⟨t, rfl, st_of ht⟩
      · subst hv
        refine q _ H5 ((ExB.ex ((e1.trans e2).trans e3) x4 hd he0).trans e5) ?_
        rw [← hist]
        exact pairs_lt h5 hl5 hP
/-! #### _law_whole -/
def sp__law_whole (K : PySem.W.Frag) : Sp := fun vs H Q _ => ∃ (i : Int), vs = [.int i] ∧ RetV (.bl true) H Q
theorem spv__law_whole {K : PySem.W.Frag} {H : Hp} {i : Int} : SpV (sp__law_whole K) [.int i] H (.bl true) := fun H1 e Q q E => ⟨i, rfl, q⟩
local macro_rules | `(tactic| walk_at "sp") => `(tactic| exact spv__law_whole)
theorem cal__law_whole {P : Program} {w : World} {K : PySem.W.Frag} {mg : Str → Option Value} {base : Heap} {f : Addr} {fd : FuncData} (Bt : Bl mg) (D : DefAt K mg "_law_whole" s__law_whole ["found"] f fd)  :
    CalE P w K mg base CX0 1 "_law_whole" ["found"] (sp__law_whole K) := by
  refine ⟨f, fd, D.F.ok sc__law_whole (fun vs H Q E h => ?_) (fun cdv A outer s H vs Q E hRm h => ?_), D.g, D.F.kp, D.b⟩
  · obtain ⟨i, rfl, _⟩ := h; rfl
  · obtain ⟨i, rfl, q⟩ := h
    refine ⟨_, (pss_one (ps_ret (pe_and (pe_callB (call_isiK1 (K := K) rfl) (by rfl) Bt.isinstance_ (by decide +kernel) (pa_cons (pv 0) (pa_cons (pe_bltn (v := .ty "int") (by rfl) Bt.int_ (by decide +kernel) rfl) pa_nil))) (pe_one (pe_not (pe_callB (call_isiK1 (K := K) rfl) (by rfl) Bt.isinstance_ (by decide +kernel) (pa_cons (pv 0) (pa_cons (pe_bltn (v := .ty "bool") (by rfl) Bt.bool_ (by decide +kernel) rfl) pa_nil)))))))), Go.at ?_⟩
    refine go_ret (ev_andV (a := true) (b := !false) ?_ (fun _ => ev_notV ?_)) q
    · exact ev_cb (ea_cons (ev_var rfl) (ea_cons ev_c ea_nil)) (rc_isi (.ty "int") (fun H1 _ => .base (.int i)) (kit_ty (by decide +kernel)))
    · exact ev_cb (ea_cons (ev_var rfl) (ea_cons ev_c ea_nil)) (rc_isi (.ty "bool") (fun H1 _ => .base (.int i)) (kit_ty (by decide +kernel)))
/-! #### rule_back -/
def sp_rule_back (K : PySem.W.Frag) : Sp := fun vs H Q _ => ∃ (a : Addr) (n : Nat) (r : List Int), vs = [.ref a] ∧ SqL K H a (r.map V.int) ∧ IsRule n r ∧ n ≤ 1000 ∧ RetL ((backL r).map V.int) H Q
theorem spl_rule_back {K : PySem.W.Frag} {H : Hp} {a : Addr} {n : Nat} {r : List Int} (h : SqL K H a (r.map V.int)) (hr : IsRule n r) (hn : n ≤ 1000) : SpL (sp_rule_back K) [.ref a] H ((backL r).map V.int) :=
  fun H1 e Q q E => ⟨a, n, r, rfl, ex_l e h, hr, hn, q⟩
theorem cal_rule_back {P : Program} {w : World} {K : PySem.W.Frag} {mg : Str → Option Value} {base : Heap} {f : Addr} {fd : FuncData} (Bt : Bl mg) (D : DefAt K mg "rule_back" s_rule_back ["rule"] f fd)  :
    CalE P w K mg base CX0 1 "rule_back" ["rule"] (sp_rule_back K) := by
  refine ⟨f, fd, D.F.ok sc_rule_back (fun vs H Q E h => ?_) (fun cdv A outer s H vs Q E hRm h => ?_), D.g, D.F.kp, D.b⟩
  · obtain ⟨a, n, r, rfl, _⟩ := h; rfl
  · obtain ⟨a, n, r, rfl, hS, hr, hn, q⟩ := h
    have hl := hr.len
    refine ⟨_, (pss_cons (ps_setLc (i := 2) (own := [("number", 1)]) (g := gName 1) (by rfl) sc_rule_back.nd rfl rfl (sw_true rfl rfl rfl (by decide +kernel)) (pi_listK (K := K) rfl (pv 0)) (blkOk_by (own := [("number", 1)]) (N := ["rule", "number", "found"]) (sc := defScope s_rule_back) (by decide +kernel)) (fun _ _ _ _ _ => pg_name (i := 1) sc_rule_back.nd rfl (Or.inl rfl)) (fun _ _ _ _ _ => pts_nil) (fun _ _ _ _ _ => pe_int))
 (pss_cons (ps_for PassesOwn.never rfl (pi_range1 (by rfl) Bt.range_ (pa_cons (pe_callB (call_lenK (K := K) rfl) (by rfl) Bt.len_ (by decide +kernel) (pa_cons (pv 0) pa_nil)) pa_nil)) (pg_name (i := 1) sc_rule_back.nd rfl (Or.inl rfl))
 (pss_one (ps_asg (pv 1) (pg_sub (pv 2) (pe_ix (ix_listK (K := K) rfl) (pv 0) (pv 1) (fun _ _ => rfl)) set_list))))
 (pss_one (ps_ret (pv 2))))), Go.at ?_⟩
    refine go_asgL (xs := (ranI n (fun x => if (r.idxOf x : Nat) < 0 then (r.idxOf x : Nat) else 0)).map V.int) ?_ fun p H1 hp e1 h1 => ?_
    · have e0 : (ranI n (fun x => if (r.idxOf x : Nat) < 0 then ((r.idxOf x : Nat) : Int) else 0)).map V.int = r.map (fun _ => V.int 0) := by
        unfold ranI
        apply List.ext_getElem
        · simp [hl]
        · intro i h1 h2
          simp
      rw [e0]
      exact el_mapL (fun _ => .int 0) (ev_var rfl) hS (by omega) (fun _ => rfl) (fun x _ => ev_c)
    · have hS1 := ex_l e1 hS
      refine go_forR1 (n := (r.length : Int)) (by walk_at "ea") (by omega) (fun i σ' H' => ∃ y, σ' = [some (.ref a), y, some (.ref p)] ∧ Ex H H' ∧ H' p = some (.lst ((ranI n (fun x => if (r.idxOf x : Nat) < i then (r.idxOf x : Nat) else 0)).map V.int)))
        (fun H2 e2 => ⟨_, rfl, e1.trans e2, e2 _ _ h1⟩) (fun i σ' H' hi ⟨y, hσ, e, h2⟩ => ?_) (fun σ' H' ⟨y, hσ, e, h2⟩ => ?_)
      · subst hσ
        have hS' := ex_l e hS
        have hin : (i : Int) < n := by omega
        obtain ⟨a0, a1⟩ := hr.at (Int.natCast_nonneg i) hin
        refine gl_setL h2 (ev_var rfl) (ev_var rfl) (i := at0 r i) (by walk_at "ev") a0 (by rw [List.length_map, len_ranI]; exact a1) fun H2 e2 => fun H3 e3 => ⟨some (.int i), rfl, ((e.trans e2).mut hp).trans e3, ?_⟩
        rw [e3 _ _ upd_same, ← List.map_set (f := V.int), ranI_set a0 a1]
        have ef : ∀ x : Int, 0 ≤ x → x < n → (if x = at0 r i then (i : Int) else if (r.idxOf x : Nat) < i then ((r.idxOf x : Nat) : Int) else 0) = if (r.idxOf x : Nat) < i + 1 then ((r.idxOf x : Nat) : Int) else 0 := by
          intro x x0 x1
          obtain ⟨hx, hx2⟩ := idx_at hr x0 x1
          by_cases hxi : x = at0 r i
          · have := at_idx hr (Int.natCast_nonneg i) hin
            rw [if_pos hxi, hxi, if_pos (by omega)]
            exact this.symm
          · have hne : r.idxOf x ≠ i := fun z => hxi (by rw [← z, hx2])
            rw [if_neg hxi]
            by_cases hlt : r.idxOf x < i
            · rw [if_pos hlt, if_pos (by omega)]
            · rw [if_neg hlt, if_neg (by omega)]
        rw [ranI_congr ef]
      · subst hσ
        refine go_ret (ev_var rfl) fun H2 e2 => q p H2 hp (e.trans e2) ?_
        rw [e2 _ _ h2]
        have ef : ∀ x : Int, 0 ≤ x → x < n → (if (r.idxOf x : Nat) < (r.length : Int).toNat then ((r.idxOf x : Nat) : Int) else 0) = (r.idxOf x : Nat) := by
          intro x x0 x1
          obtain ⟨hx, _⟩ := idx_at hr x0 x1
          rw [if_pos (by omega)]
        unfold backL
        rw [ranI_congr ef, hl]
/-! #### _law_refused -/
def sp__law_refused (K : PySem.W.Frag) : Sp := fun vs H Q _ => ∃ (a : Addr) (r : List Int) (n hh ww : Nat), vs = [.ref a, .int (n : Int), .int ((2 * ww : Nat) : Int), .int ((2 * hh : Nat) : Int)] ∧ H a = some (.lst (r.map V.int)) ∧ 2 ≤ n ∧ n ≤ 3 ∧ IsRule (n4 (n : Int)) r ∧ 1 ≤ hh ∧ hh ≤ 8 ∧ 1 ≤ ww ∧ ww ≤ 8 ∧
  300 < n ^ (2 * ww * (2 * hh)) ∧ RetV (.bl true) H Q
theorem spv__law_refused {K : PySem.W.Frag} {H : Hp} {a : Addr} {r : List Int} {n hh ww : Nat} (hS : H a = some (.lst (r.map V.int))) (n0 : 2 ≤ n) (n1 : n ≤ 3) (hr : IsRule (n4 (n : Int)) r) (h1 : 1 ≤ hh) (h2 : hh ≤ 8) (w1 : 1 ≤ ww) (w2 : ww ≤ 8) (hb : 300 < n ^ (2 * ww * (2 * hh))) :
    SpV (sp__law_refused K) [.ref a, .int (n : Int), .int ((2 * ww : Nat) : Int), .int ((2 * hh : Nat) : Int)] H (.bl true) := fun H1 e Q q E => ⟨a, r, n, hh, ww, rfl, e _ _ hS, n0, n1, hr, h1, h2, w1, w2, hb, q⟩
theorem cal__law_refused {P : Program} {w : World} {K : PySem.W.Frag} {mg : Str → Option Value} {base : Heap} {f : Addr} {fd : FuncData} (Bt : Bl mg) (D : DefAt K mg "_law_refused" s__law_refused ["rule", "colours", "width", "height"] f fd) {C_BlockError C_TooLong C_TooMany : Addr} (Cl : Cls K mg C_BlockError C_TooLong C_TooMany) (C_rings : CalE P w K mg base (L2.CX P w) 4 "rings" ["rule", "colours", "width", "height"] (sp_rings K)) :
    CalE P w K mg base CX0 5 "_law_refused" ["rule", "colours", "width", "height"] (sp__law_refused K) := by
  obtain ⟨f_rings, fd_rings, G_rings, g_rings, k_rings, b_rings⟩ := C_rings.ex
  refine ⟨f, fd, D.F.ok sc__law_refused (fun vs H Q E h => ?_) (fun cdv A outer s H vs Q E hRm h => ?_), D.g, D.F.kp, D.b⟩
  · obtain ⟨a, r, n, hh, ww, rfl, _⟩ := h; rfl
  · obtain ⟨a, r, n, hh, ww, rfl, hS, n0, n1, hr, h1, h2, w1, w2, hb, q⟩ := h
    refine ⟨_, (pss_cons (ps_set (i := 4) sc__law_refused.nd rfl (Or.inl rfl) (pe_lst pa_nil))
 (pss_cons (ps_try_as (i := 5) rfl rfl sc__law_refused.nd rfl rfl ⟨rfl, by decide, Or.inl Cl.BlockError.gP⟩ takes0 (fun W pn xe tk _ => (pss_one (ps_expr (pe_callS G_rings (hRm.mono (by decide)) (by rfl) g_rings k_rings b_rings (fun σ => passAt tk σ) (pa_cons (pv 0) (pa_cons (pv 1) (pa_cons (pv 2) (pa_cons (pv 3) pa_nil)))))))) (fun a oe cls d pn hz hf => (pss_one (ps_set (i := 4) sc__law_refused.nd rfl (Or.inl rfl) (pe_lst (pa_cons (pe_callB (call_isX hz hf) (by rfl) Bt.isinstance_ (by decide +kernel) (pa_cons (pv 5) (pa_cons (pe_glob (v := .ref C_TooMany) rfl Cl.TooMany.gP rfl) pa_nil))) (pa_cons (pe_callB (call_isX hz hf) (by rfl) Bt.isinstance_ (by decide +kernel) (pa_cons (pv 5) (pa_cons (pe_glob (v := .ref C_TooLong) rfl Cl.TooLong.gP rfl) pa_nil))) (pa_cons (pe_callB (call_isX hz hf) (by rfl) Bt.isinstance_ (by decide +kernel) (pa_cons (pv 5) (pa_cons (pe_bltn (v := .ty "ValueError") (by rfl) Bt.ValueError_ (by decide +kernel) rfl) pa_nil))) pa_nil))))))))
 (pss_one (ps_ret (pe_cmpR (op_eqDK (K := K) rfl hRm.units) (pv 4) (pe_lst (pa_cons pe_bl (pa_cons pe_bl (pa_cons pe_bl pa_nil)))) (nomark _)))))), Go.at ?_⟩
    refine go_asgL (xs := []) (el_lst ea_nil (by decide)) fun p H1 hp e1 hl => ?_
    refine go_tryAsD (P := fun _ _ => False) (vs := [.ref a, .int (n : Int), .int ((2 * ww : Nat) : Int), .int ((2 * hh : Nat) : Int)]) (R := fun cls => cls = .ref C_TooMany) (by walk_at "ea")
      (fun H2 e2 Q E hQ hE => ⟨a, r, n, hh, ww, rfl, (e1.trans e2) _ _ hS, n0, n1, hr, h1, h2, w1, w2, fun z => absurd hb (by omega), fun _ C hC H3 e3 => hE _ H3 e3 (by rw [Cl.TooMany.same hC])⟩)
      (fun u H5 e5 z => z.elim) (fun cls hcls => ?_)
    subst hcls
    refine ⟨Cl.BlockError.exm Cl.S_TooMany_BlockError, fun ea H5 e5 => ?_⟩
    refine gl_asgL (xs := [true, false, true].map V.bl) (el_lst (ea_cons (ev_isX (ev_var rfl) ev_c Cl.TooMany.E (fun u h => h) kit_self) (ea_cons (ev_isX (ev_var rfl) ev_c Cl.TooMany.E (fun u h => h) (Cl.TooLong.kitF Cl.S_TooMany_TooLong)) (ea_cons (ev_isX (ev_var rfl) ev_c Cl.TooMany.E (fun u h => h) Cl.TooMany.kitV) ea_nil))) (by show (3 : Nat) ≤ 100000; decide)) fun p2 H6 hp2 e6 h6 => gn_suite ?_
    exact go_ret (v := .bl true) (ev_is (ev_eqBs (ns := [true, false, true]) (ms := [true, false, true]) (ev_var rfl) (sq_of h6) (el_lst (ea_cons ev_c (ea_cons ev_c (ea_cons ev_c ea_nil))) (by show (3 : Nat) ≤ 100000; decide))) (by simp)) fun H7 e7 => q H7 (((e1.trans e5).trans e6).trans e7)
/-! #### law -/
theorem histC_two {α : Type} [DecidableEq α] (F : α → α) (X : List α) : ∀ r ∈ histC F X, r.length = 2 := by
  intro r hr
  unfold histC at hr
  obtain ⟨n, _, rfl⟩ := List.mem_map.mp hr
  rfl
theorem spp_rings {K : PySem.W.Frag} {H : Hp} {a : Addr} {r : List Int} {n hh ww : Nat} (hS : H a = some (.lst (r.map V.int))) (n0 : 2 ≤ n) (n1 : n ≤ 3) (hr : IsRule (n4 (n : Int)) r) (h1 : 1 ≤ hh) (h2 : hh ≤ 2) (w1 : 1 ≤ ww) (w2 : ww ≤ 2) (hb : n ^ (2 * ww * (2 * hh)) ≤ 300) :
    SpP (sp_rings K) [.ref a, .int (n : Int), .int ((2 * ww : Nat) : Int), .int ((2 * hh : Nat) : Int)] H (LtV K (histC (ringF hh ww (n : Int) r) (allB n (2 * hh) (2 * ww)))) :=
  fun H1 e Q q E => ⟨a, r, n, hh, ww, rfl, e _ _ hS, n0, n1, hr, h1, by omega, w1, by omega, fun _ => q, fun z => absurd hb (by omega)⟩
theorem spp__law_rings {K : PySem.W.Frag} {H : Hp} {a : Addr} {r : List Int} {n hh ww : Nat} (hS : H a = some (.lst (r.map V.int))) (n0 : 2 ≤ n) (n1 : n ≤ 3) (hr : IsRule (n4 (n : Int)) r) (h1 : 1 ≤ hh) (h2 : hh ≤ 2) (w1 : 1 ≤ ww) (w2 : ww ≤ 2) (hb : n ^ (2 * ww * (2 * hh)) ≤ 300) :
    SpP (sp__law_rings K) [.ref a, .int (n : Int), .int ((2 * ww : Nat) : Int), .int ((2 * hh : Nat) : Int)] H (LtV K (histC (ringF hh ww (n : Int) r) (allB n (2 * hh) (2 * ww)))) :=
  fun H1 e Q q E => ⟨a, r, n, hh, ww, rfl, e _ _ hS, n0, n1, hr, h1, by omega, w1, by omega, hb, q⟩
/-- a size -/
def SzV (K : PySem.W.Frag) (n : Nat) (v : V) (H : Hp) : Prop := ∃ ww hh : Nat, RwV K [((2 * ww : Nat) : Int), ((2 * hh : Nat) : Int)] v H ∧ 1 ≤ ww ∧ ww ≤ 2 ∧ 1 ≤ hh ∧ hh ≤ 2 ∧ n ^ (2 * ww * (2 * hh)) ≤ 300
/-- a size with too many boards -/
def BigV (K : PySem.W.Frag) (n : Nat) (v : V) (H : Hp) : Prop := ∃ ww hh : Nat, RwV K [((2 * ww : Nat) : Int), ((2 * hh : Nat) : Int)] v H ∧ 1 ≤ ww ∧ ww ≤ 8 ∧ 1 ≤ hh ∧ hh ≤ 8 ∧ 300 < n ^ (2 * ww * (2 * hh))
theorem pow_big {n a : Nat} (n0 : 2 ≤ n) (h : 16 ≤ a) : 300 < n ^ a :=
  Nat.lt_of_lt_of_le (show 300 < 2 ^ 16 by decide) (Nat.le_trans (Nat.pow_le_pow_left n0 16) (Nat.pow_le_pow_right (by omega) h))
theorem mono_rw {K : PySem.W.Frag} (r : List Int) : Mono (RwV K r) := (rw_imm r).mono
theorem three_mono {K : PySem.W.Frag} {L : List (List Int)} : ∀ P ∈ L.map (RwV K), Mono P := fun P hP => by
  obtain ⟨r, _, rfl⟩ := List.mem_map.mp hP
  exact mono_rw r
set_option maxHeartbeats 1000000 in
theorem ok_law {P : Program} {w : World} {K : PySem.W.Frag} {mg : Str → Option Value} {base : Heap} {f : Addr} {fd : FuncData} (Bt : Bl mg) (D : DefAt K mg "law" s_law ["script"] f fd) (C__law_cell_at : CalE P w K mg base CX0 1 "_law_cell_at" ["script", "k"] (sp__law_cell_at K)) (C__law_rule_by : CalE P w K mg base CX0 2 "_law_rule_by" ["cell", "colours"] (sp__law_rule_by K)) (C__law_rings : CalE P w K mg base CX0 2 "_law_rings" ["rule", "colours", "width", "height"] (sp__law_rings K)) (C_rings : CalE P w K mg base (L2.CX P w) 4 "rings" ["rule", "colours", "width", "height"] (sp_rings K)) (C__law_whole : CalE P w K mg base CX0 1 "_law_whole" ["found"] (sp__law_whole K)) (C_rule_back : CalE P w K mg base CX0 1 "rule_back" ["rule"] (sp_rule_back K)) (C__law_refused : CalE P w K mg base CX0 5 "_law_refused" ["rule", "colours", "width", "height"] (sp__law_refused K)) :
    FnOk P w K mg base CX0 6 f fd ["script"] (sp_law K) := by
  obtain ⟨f__law_cell_at, fd__law_cell_at, G__law_cell_at, g__law_cell_at, k__law_cell_at, b__law_cell_at⟩ := C__law_cell_at.ex
  obtain ⟨f__law_rule_by, fd__law_rule_by, G__law_rule_by, g__law_rule_by, k__law_rule_by, b__law_rule_by⟩ := C__law_rule_by.ex
  obtain ⟨f__law_rings, fd__law_rings, G__law_rings, g__law_rings, k__law_rings, b__law_rings⟩ := C__law_rings.ex
  obtain ⟨f_rings, fd_rings, G_rings, g_rings, k_rings, b_rings⟩ := C_rings.ex
  obtain ⟨f__law_whole, fd__law_whole, G__law_whole, g__law_whole, k__law_whole, b__law_whole⟩ := C__law_whole.ex
  obtain ⟨f_rule_back, fd_rule_back, G_rule_back, g_rule_back, k_rule_back, b_rule_back⟩ := C_rule_back.ex
  obtain ⟨f__law_refused, fd__law_refused, G__law_refused, g__law_refused, k__law_refused, b__law_refused⟩ := C__law_refused.ex
  refine D.F.ok sc_law (fun vs H Q E h => ?_) (fun cdv A outer s H vs Q E hRm h => ?_)
  · obtain ⟨a, ns, rfl, _⟩ := h; rfl
  · obtain ⟨a, ns, rfl, hS, hlen, q⟩ := h
    refine ⟨_, (pss_cons (ps_set (i := 1) sc_law.nd rfl (Or.inl rfl) (pe_op op_add pe_int (pe_op op_mod (pe_call G__law_cell_at (hRm.mono (by decide)) (by rfl) g__law_cell_at k__law_cell_at b__law_cell_at .nil pass0 (pa_cons (pv 0) (pa_cons pe_int pa_nil))) pe_int)))
 (pss_cons (ps_set (i := 2) sc_law.nd rfl (Or.inl rfl) (pe_call G__law_rule_by (hRm.mono (by decide)) (by rfl) g__law_rule_by k__law_rule_by b__law_rule_by .nil pass0 (pa_cons (pe_call G__law_cell_at (hRm.mono (by decide)) (by rfl) g__law_cell_at k__law_cell_at b__law_cell_at .nil pass0 (pa_cons (pv 0) (pa_cons pe_int pa_nil))) (pa_cons (pv 1) pa_nil))))
 (pss_cons (ps_set (i := 3) sc_law.nd rfl (Or.inl rfl) (pe_ix (ix_listK (K := K) rfl) (pe_lst (pa_cons (pe_tup (pa_cons pe_int (pa_cons pe_int pa_nil))) (pa_cons (pe_tup (pa_cons pe_int (pa_cons pe_int pa_nil))) (pa_cons (pe_tup (pa_cons pe_int (pa_cons pe_int pa_nil))) pa_nil)))) (pe_op op_mod (pe_call G__law_cell_at (hRm.mono (by decide)) (by rfl) g__law_cell_at k__law_cell_at b__law_cell_at .nil pass0 (pa_cons (pv 0) (pa_cons pe_int pa_nil))) pe_int) (fun _ _ => rfl)))
 (pss_cut (ps_if (pt_cmpR op_eq (pv 1) pe_int (nomark _)) (pss_one (ps_set (i := 3) sc_law.nd rfl (Or.inl rfl) (pe_tup (pa_cons pe_int (pa_cons pe_int pa_nil))))) pss_nil)
 (pss_cons (ps_set (i := 4) sc_law.nd rfl (Or.inl rfl) (pe_call G__law_rings (hRm.mono (by decide)) (by rfl) g__law_rings k__law_rings b__law_rings .nil pass0 (pa_cons (pv 2) (pa_cons (pv 1) (pa_cons (pe_ix (ix_tupK (K := K) rfl) (pv 3) pe_int (fun _ _ => rfl)) (pa_cons (pe_ix (ix_tupK (K := K) rfl) (pv 3) pe_int (fun _ _ => rfl)) pa_nil))))))
 (pss_cons (ps_set (i := 5) sc_law.nd rfl (Or.inl rfl) (pe_call G_rings (hRm.mono (by decide)) (by rfl) g_rings k_rings b_rings .nil passL (pa_cons (pv 2) (pa_cons (pv 1) (pa_cons (pe_ix (ix_tupK (K := K) rfl) (pv 3) pe_int (fun _ _ => rfl)) (pa_cons (pe_ix (ix_tupK (K := K) rfl) (pv 3) pe_int (fun _ _ => rfl)) pa_nil))))))
 (pss_cons (ps_if (PW.pt (pw_or (pt_not (pt_val (pe_callB (call_isiK1 (K := K) rfl) (by rfl) Bt.isinstance_ (by decide +kernel) (pa_cons (pv 5) (pa_cons (pe_bltn (v := .ty "list") (by rfl) Bt.list_ (by decide +kernel) rfl) pa_nil))))) (pw_or1 (pt_cmpR (op_neDK (K := K) rfl hRm.units) (pv 5) (pv 4) (nomark _))))) (pss_one (ps_ret pe_bl)) pss_nil)
 (pss_cons (ps_for PassesOwn.never rfl (pi_listK (K := K) rfl (pv 5)) (pg_name (i := 6) sc_law.nd rfl (Or.inl rfl))
 (pss_one (ps_if (PW.pt (pw_or (pt_not (pt_val (pe_callB (call_isiK1 (K := K) rfl) (by rfl) Bt.isinstance_ (by decide +kernel) (pa_cons (pv 6) (pa_cons (pe_bltn (v := .ty "tuple") (by rfl) Bt.tuple_ (by decide +kernel) rfl) pa_nil))))) (pw_or (pt_not (pt_val (pe_call G__law_whole (hRm.mono (by decide)) (by rfl) g__law_whole k__law_whole b__law_whole .nil pass0 (pa_cons (pe_ix (ix_tupK (K := K) rfl) (pv 6) pe_int (fun _ _ => rfl)) pa_nil)))) (pw_or1 (pt_not (pt_val (pe_call G__law_whole (hRm.mono (by decide)) (by rfl) g__law_whole k__law_whole b__law_whole .nil pass0 (pa_cons (pe_ix (ix_tupK (K := K) rfl) (pv 6) pe_int (fun _ _ => rfl)) pa_nil)))))))) (pss_one (ps_ret pe_bl)) pss_nil)))
 (pss_cons (ps_if (pt_cmpR (op_neDK (K := K) rfl hRm.units) (pe_call G_rings (hRm.mono (by decide)) (by rfl) g_rings k_rings b_rings .nil passL (pa_cons (pe_call G_rule_back (hRm.mono (by decide)) (by rfl) g_rule_back k_rule_back b_rule_back .nil pass0 (pa_cons (pv 2) pa_nil)) (pa_cons (pv 1) (pa_cons (pe_ix (ix_tupK (K := K) rfl) (pv 3) pe_int (fun _ _ => rfl)) (pa_cons (pe_ix (ix_tupK (K := K) rfl) (pv 3) pe_int (fun _ _ => rfl)) pa_nil))))) (pv 4) (nomark _)) (pss_one (ps_ret pe_bl)) pss_nil)
 (pss_cons (ps_set (i := 7) sc_law.nd rfl (Or.inl rfl) (pe_call G__law_cell_at (hRm.mono (by decide)) (by rfl) g__law_cell_at k__law_cell_at b__law_cell_at .nil pass0 (pa_cons (pv 0) (pa_cons pe_int pa_nil))))
 (pss_cons (ps_if (pt_cmpR op_eq (pe_op op_mod (pe_op op_fdiv (pv 7) pe_int) pe_int) pe_int (nomark _)) (pss_cons (ps_set (i := 8) sc_law.nd rfl (Or.inl rfl) (pe_ix (ix_listK (K := K) rfl) (pe_ix (ix_listK (K := K) rfl) (pe_lst (pa_cons (pe_lst (pa_cons (pe_tup (pa_cons pe_int (pa_cons pe_int pa_nil))) (pa_cons (pe_tup (pa_cons pe_int (pa_cons pe_int pa_nil))) pa_nil))) (pa_cons (pe_lst (pa_cons (pe_tup (pa_cons pe_int (pa_cons pe_int pa_nil))) (pa_cons (pe_tup (pa_cons pe_int (pa_cons pe_int pa_nil))) pa_nil))) pa_nil))) (pe_op op_sub (pv 1) pe_int) (fun _ _ => rfl)) (pe_op op_mod (pv 7) pe_int) (fun _ _ => rfl)))
 (pss_one (ps_ret (pe_call G__law_refused (hRm.mono (by decide)) (by rfl) g__law_refused k__law_refused b__law_refused .nil pass0 (pa_cons (pv 2) (pa_cons (pv 1) (pa_cons (pe_ix (ix_tupK (K := K) rfl) (pv 8) pe_int (fun _ _ => rfl)) (pa_cons (pe_ix (ix_tupK (K := K) rfl) (pv 8) pe_int (fun _ _ => rfl)) pa_nil)))))))) pss_nil)
 (pss_one (ps_ret (pe_call G__law_refused (hRm.mono (by decide)) (by rfl) g__law_refused k__law_refused b__law_refused .nil pass0 (pa_cons (pv 2) (pa_cons (pv 1) (pa_cons (pe_op op_add pe_int (pe_op op_mul pe_int (pe_op op_mod (pv 7) pe_int))) (pa_cons (pe_op op_add pe_int (pe_op op_mul pe_int (pe_op op_mod (pe_op op_fdiv (pv 7) pe_int) pe_int))) pa_nil)))))))))))))))))), Go.at ?_⟩
    obtain ⟨c0, c1⟩ := col_of (at0 ns 0)
    refine go_asg (v := .int (2 + at0 ns 0 % 2)) (by walk_at "ev") ?_
    generalize 2 + at0 ns 0 % 2 = c at *
    obtain ⟨n, rfl⟩ := Int.eq_ofNat_of_zero_le (show 0 ≤ c by omega)
    have n0 : 2 ≤ n := by omega
    have n1 : n ≤ 3 := by omega
    refine go_asgR (by walk_at "ea") (spr__law_rule_by (cell := at0 ns 1) c0 c1) fun r b H1 hr hb e1 h1 => ?_
    have hS1 := ex_l e1 hS
    refine go_asgP (P := SzV K 2) ?_ fun v H2 e2 hv => ?_
    · have k0 := Int.emod_nonneg (at0 ns 2) (show (3 : Int) ≠ 0 by decide)
      have k1 := Int.emod_lt_of_pos (at0 ns 2) (show (0 : Int) < 3 by decide)
      have L : EvP (tLst (tCons (tTup (tCons (tC (.int 2)) (tCons (tC (.int 2)) tNil))) (tCons (tTup (tCons (tC (.int 4)) (tCons (tC (.int 2)) tNil))) (tCons (tTup (tCons (tC (.int 2)) (tCons (tC (.int 4)) tNil))) tNil)))) [some (.ref a), some (.int (n : Int)), some (.ref b), none, none, none, none, none, none] H1 (LsP [RwV K [2, 2], RwV K [4, 2], RwV K [2, 4]]) :=
        ep_lstP (three_mono (L := [[2, 2], [4, 2], [2, 4]])) (eap_consP (mono_rw _) (ep_pair ev_c ev_c) (eap_consP (mono_rw _) (ep_pair ev_c ev_c) (eap_consP (mono_rw _) (ep_pair ev_c ev_c) eap_nilP))) (by show (3 : Nat) ≤ 1000; decide)
      rcases (show at0 ns 2 % 3 = 0 ∨ at0 ns 2 % 3 = 1 ∨ at0 ns 2 % 3 = 2 by omega) with e | e | e
      · exact ep_weak (ep_ixP L (fun H2 e2 => by have hS2 := ex_l e2 hS1; exact ev_is (v := .int (at0 ns 2 % 3)) (by walk_at "ev") rfl) (mono_rw _) k0 (by rw [e]; rfl)) fun v H2 _ hv => ⟨1, 1, hv, by decide, by decide, by decide, by decide, by decide⟩
      · exact ep_weak (ep_ixP L (fun H2 e2 => by have hS2 := ex_l e2 hS1; exact ev_is (v := .int (at0 ns 2 % 3)) (by walk_at "ev") rfl) (mono_rw _) k0 (by rw [e]; rfl)) fun v H2 _ hv => ⟨2, 1, hv, by decide, by decide, by decide, by decide, by decide⟩
      · exact ep_weak (ep_ixP L (fun H2 e2 => by have hS2 := ex_l e2 hS1; exact ev_is (v := .int (at0 ns 2 % 3)) (by walk_at "ev") rfl) (mono_rw _) k0 (by rw [e]; rfl)) fun v H2 _ hv => ⟨1, 2, hv, by decide, by decide, by decide, by decide, by decide⟩
    refine go_cutIfd (p := (n : Int) = 3) (fun σ' H' => ∃ v, σ' = [some (.ref a), some (.int (n : Int)), some (.ref b), some v, none, none, none, none, none] ∧ Ex H2 H' ∧ SzV K n v H') (by walk_at "et") (fun h3 => ?_) (fun h3 => fun H3 e3 => ?_) (fun σ' H3 ⟨v, hσ, e3, hv3⟩ => ?_)
    · refine gl_asgP (ep_pair (K := K) (a := 2) (b := 2) ev_c ev_c) fun v H3 e3 hv => fun H4 e4 => ⟨v, rfl, e3.trans e4, 1, 1, mono_rw _ _ _ _ e4 hv, by decide, by decide, by decide, by decide, ?_⟩
      rw [show n = 3 by omega]
      decide
    · refine ⟨v, rfl, e3, ?_⟩
      obtain ⟨ww, hh, g1, g2⟩ := hv
      rw [show n = 2 by omega]
      exact ⟨ww, hh, mono_rw _ _ _ _ e3 g1, g2⟩
    · subst hσ
      clear hv
      obtain ⟨ww, hh, hvr, w1, w2, hh1, hh2, hsm⟩ := hv3
      obtain ⟨sa, rfl, hsa⟩ := hvr
      have i0 : atI ([((2 * ww : Nat) : Int), ((2 * hh : Nat) : Int)].map V.int) 0 = some (.int ((2 * ww : Nat) : Int)) := rfl
      have i1 : atI ([((2 * ww : Nat) : Int), ((2 * hh : Nat) : Int)].map V.int) 1 = some (.int ((2 * hh : Nat) : Int)) := rfl
      have hb3 := (e2.trans e3) _ _ h1
      have hS3 := ex_l (e2.trans e3) hS1
      refine go_asgP (ep_call (vs := [.ref b, .int (n : Int), .int ((2 * ww : Nat) : Int), .int ((2 * hh : Nat) : Int)]) (ea_cons (ev_var rfl) (ea_cons (ev_var rfl) (ea_cons (ev_ixT (ev_var rfl) ev_c hsa i0) (ea_cons (ev_ixT (ev_var rfl) ev_c hsa i1) ea_nil)))) (spp__law_rings hb3 n0 n1 hr hh1 hh2 w1 w2 hsm)) fun du H4 e4 hdu => ?_
      have hsa4 := ex_t e4 hsa
      have hb4 := e4 _ _ hb3
      refine go_asgP (ep_call (vs := [.ref b, .int (n : Int), .int ((2 * ww : Nat) : Int), .int ((2 * hh : Nat) : Int)]) (ea_cons (ev_var rfl) (ea_cons (ev_var rfl) (ea_cons (ev_ixT (ev_var rfl) ev_c hsa4 i0) (ea_cons (ev_ixT (ev_var rfl) ev_c hsa4 i1) ea_nil)))) (spp_rings hb4 n0 n1 hr hh1 hh2 w1 w2 hsm)) fun fo H5 e5 hfo => ?_
      have hdu5 := hdu.up e5
      have hb5 := e5 _ _ hb4
      have hback := hist_back (hh := hh) (ww := ww) (n := n) rfl c0 c1 hr
      have htwo := histC_two (ringF hh ww (n : Int) r) (allB n (2 * hh) (2 * ww))
      obtain ⟨fp, fs, rfl, hfs, hfr⟩ := id hfo
      refine go_not (et_or (et_not (et_B (ev_isiL (ev_var rfl) hfs))) (fun _ => et_test (ev_op (ev_var rfl) (ev_var rfl) (rv_neLT hfo hdu5)))) (by simp) ?_
      refine go_forL (a := fp) (xs := fs) (ev_var rfl) hfs (fun i σ' H' => ∃ y6, σ' = [some (.ref a), some (.int (n : Int)), some (.ref b), some (.ref sa), some du, some (.ref fp), y6, none, none] ∧ Ex H5 H')
        (fun H6 e6 => ⟨_, rfl, e6⟩) (fun i σ' H6 _ ⟨_, _, e6⟩ => ex_l e6 hfs) (fun i x σ' H6 hi ⟨y6, hσ, e6⟩ => ?_) (fun σ' H6 ⟨y6, hσ, e6⟩ => ?_)
      · subst hσ
        have hil : i < (histC (ringF hh ww (n : Int) r) (allB n (2 * hh) (2 * ww))).length := by rw [← hfr.1]; exact (List.getElem?_eq_some_iff.mp hi).1
        obtain ⟨xa, rfl, hx⟩ := hfr.2 i x _ hi (List.getElem?_eq_getElem hil)
        have h2 := htwo _ (List.getElem_mem hil)
        generalize (histC (ringF hh ww (n : Int) r) (allB n (2 * hh) (2 * ww)))[i] = rr at *
        have hx6 := ex_t e6 hx
        exact gl_whenb (b := false) (et_or (b := !true) (et_not (et_B (ev_isiT (ev_var rfl) hx6))) (fun _ => et_or (b := !true) (et_not (et_B (ev_call (ea_cons (ev_ixTI (ev_var rfl) ev_c hx6 (by decide) (by omega)) ea_nil) spv__law_whole))) (fun _ => et_not (et_B (ev_call (ea_cons (ev_ixTI (ev_var rfl) ev_c hx6 (by decide) (by omega)) ea_nil) spv__law_whole))))) (fun z => by cases z) (fun _ => fun H9 e9 => ⟨_, rfl, e6.trans e9⟩)
      · subst hσ
        have hdu6 := hdu5.up e6
        have hb6 := e6 _ _ hb5
        have hsa6 := ex_t (e5.trans e6) hsa4
        have hS6 := ex_l ((e4.trans e5).trans e6) hS3
        refine go_not (b := decide (histC (ringF hh ww (n : Int) (backL r)) (allB n (2 * hh) (2 * ww)) ≠ histC (ringF hh ww (n : Int) r) (allB n (2 * hh) (2 * ww)))) (et_test (ev_opP (P := LtV K (histC (ringF hh ww (n : Int) (backL r)) (allB n (2 * hh) (2 * ww)))) (P2 := LtV K (histC (ringF hh ww (n : Int) r) (allB n (2 * hh) (2 * ww)))) (fun v H H' e h => h.up e)
          (ep_callP (R := fun vs H => ∃ p, vs = [.ref p, .int (n : Int), .int ((2 * ww : Nat) : Int), .int ((2 * hh : Nat) : Int)] ∧ H p = some (.lst ((backL r).map V.int)))
            (eap_cons (P := fun v H => ∃ p, v = .ref p ∧ H p = some (.lst ((backL r).map V.int))) (R := fun vs _ => vs = [.int (n : Int), .int ((2 * ww : Nat) : Int), .int ((2 * hh : Nat) : Int)]) (fun v H H' e ⟨p, g1, g2⟩ => ⟨p, g1, e _ _ g2⟩) (ep_L (el_call (ea_cons (ev_var rfl) ea_nil) (spl_rule_back (sq_of hb6) hr (by have := (n4_int c0 c1).2.1; omega))) fun p H7 _ h7 => ⟨p, rfl, h7⟩)
              (eap_of (ea_cons (ev_var rfl) (ea_cons (ev_ixT (ev_var rfl) ev_c hsa6 i0) (ea_cons (ev_ixT (ev_var rfl) ev_c hsa6 i1) ea_nil))) fun _ _ => rfl) (fun v vs H _ ⟨p, g1, g2⟩ hvs => ⟨p, by rw [hvs, g1], g2⟩))
            (fun vs H7 e7 ⟨p, hvs, hp⟩ => by
              rw [hvs]
              exact spp_rings hp n0 n1 (isRule_back hr) hh1 hh2 w1 w2 hsm))
          (ep_of (ev_var rfl) fun H1 e => hdu6.up e) (fun v u H7 e7 g1 g2 => rv_neLT g1 g2))) (by rw [hback]; simp) ?_
        refine go_asg (v := .int (at0 ns 3)) (by walk_at "ev") ?_
        generalize at0 ns 3 = z at *
        refine go_when (p := z / 49 % 3 = 1) (by walk_at "et") (fun _ => ?_) (fun _ => ?_)
        · refine go_asgP (P := BigV K n) ?_ fun v H7 e7 ⟨vw, vh, hvr, g1, g2, g3, g4, g5⟩ => ?_
          · have k0 := Int.emod_nonneg z (show (2 : Int) ≠ 0 by decide)
            have k1 := Int.emod_lt_of_pos z (show (0 : Int) < 2 by decide)
            have L : ∀ (σ : L2.St), EvP (tLst (tCons (tLst (tCons (tTup (tCons (tC (.int 6)) (tCons (tC (.int 2)) tNil))) (tCons (tTup (tCons (tC (.int 2)) (tCons (tC (.int 6)) tNil))) tNil))) (tCons (tLst (tCons (tTup (tCons (tC (.int 4)) (tCons (tC (.int 2)) tNil))) (tCons (tTup (tCons (tC (.int 2)) (tCons (tC (.int 4)) tNil))) tNil))) tNil))) σ H6 (LsP [LsP ([[6, 2], [2, 6]].map (RwV K)), LsP ([[4, 2], [2, 4]].map (RwV K))]) := fun σ =>
              ep_lstP (fun P hP => by
                  rcases List.mem_cons.mp hP with rfl | hP
                  · exact lsP_mono three_mono
                  · rw [List.mem_singleton.mp hP]
                    exact lsP_mono three_mono) (eap_consP (lsP_mono three_mono) (ep_lstP three_mono (eap_consP (mono_rw _) (ep_pair ev_c ev_c) (eap_consP (mono_rw _) (ep_pair ev_c ev_c) eap_nilP)) (by show (2 : Nat) ≤ 1000; decide)) (eap_consP (lsP_mono three_mono) (ep_lstP three_mono (eap_consP (mono_rw _) (ep_pair ev_c ev_c) (eap_consP (mono_rw _) (ep_pair ev_c ev_c) eap_nilP)) (by show (2 : Nat) ≤ 1000; decide)) eap_nilP)) (by show (2 : Nat) ≤ 1000; decide)
            rcases (show n = 2 ∨ n = 3 by omega) with rfl | rfl
            · rcases (show z % 2 = 0 ∨ z % 2 = 1 by omega) with e | e
              · exact ep_weak (ep_ixP (ep_ixP (i := 0) (L _) (fun H2 e2 => ev_is (v := .int (((2 : Nat) : Int) - 2)) (by walk_at "ev") rfl) (lsP_mono three_mono) (by decide) rfl) (fun H2 e2 => ev_is (v := .int (z % 2)) (by walk_at "ev") rfl) (mono_rw _) k0 (by rw [e]; rfl)) fun v H2 _ hv => ⟨3, 1, hv, by decide, by decide, by decide, by decide, by decide⟩
              · exact ep_weak (ep_ixP (ep_ixP (i := 0) (L _) (fun H2 e2 => ev_is (v := .int (((2 : Nat) : Int) - 2)) (by walk_at "ev") rfl) (lsP_mono three_mono) (by decide) rfl) (fun H2 e2 => ev_is (v := .int (z % 2)) (by walk_at "ev") rfl) (mono_rw _) k0 (by rw [e]; rfl)) fun v H2 _ hv => ⟨1, 3, hv, by decide, by decide, by decide, by decide, by decide⟩
            · rcases (show z % 2 = 0 ∨ z % 2 = 1 by omega) with e | e
              · exact ep_weak (ep_ixP (ep_ixP (i := 1) (L _) (fun H2 e2 => ev_is (v := .int (((3 : Nat) : Int) - 2)) (by walk_at "ev") rfl) (lsP_mono three_mono) (by decide) rfl) (fun H2 e2 => ev_is (v := .int (z % 2)) (by walk_at "ev") rfl) (mono_rw _) k0 (by rw [e]; rfl)) fun v H2 _ hv => ⟨2, 1, hv, by decide, by decide, by decide, by decide, by decide⟩
              · exact ep_weak (ep_ixP (ep_ixP (i := 1) (L _) (fun H2 e2 => ev_is (v := .int (((3 : Nat) : Int) - 2)) (by walk_at "ev") rfl) (lsP_mono three_mono) (by decide) rfl) (fun H2 e2 => ev_is (v := .int (z % 2)) (by walk_at "ev") rfl) (mono_rw _) k0 (by rw [e]; rfl)) fun v H2 _ hv => ⟨1, 2, hv, by decide, by decide, by decide, by decide, by decide⟩
          · obtain ⟨va, rfl, hva⟩ := hvr
            have j0 : atI ([((2 * vw : Nat) : Int), ((2 * vh : Nat) : Int)].map V.int) 0 = some (.int ((2 * vw : Nat) : Int)) := rfl
            have j1 : atI ([((2 * vw : Nat) : Int), ((2 * vh : Nat) : Int)].map V.int) 1 = some (.int ((2 * vh : Nat) : Int)) := rfl
            exact go_ret (ev_call (ea_cons (ev_var rfl) (ea_cons (ev_var rfl) (ea_cons (ev_ixT (ev_var rfl) ev_c hva j0) (ea_cons (ev_ixT (ev_var rfl) ev_c hva j1) ea_nil)))) (spv__law_refused (e7 _ _ hb6) n0 n1 hr g3 g4 g1 g2 g5)) fun H8 _ => q H8
        · have a0 := Int.emod_nonneg z (show (7 : Int) ≠ 0 by decide)
          have a1 := Int.emod_lt_of_pos z (show (0 : Int) < 7 by decide)
          have b0 := Int.emod_nonneg (z / 7) (show (7 : Int) ≠ 0 by decide)
          have b1 := Int.emod_lt_of_pos (z / 7) (show (0 : Int) < 7 by decide)
          obtain ⟨vw, hvw⟩ := Int.eq_ofNat_of_zero_le (show 0 ≤ 2 + z % 7 by omega)
          obtain ⟨vh, hvh⟩ := Int.eq_ofNat_of_zero_le (show 0 ≤ 2 + z / 7 % 7 by omega)
          have hp : 16 ≤ 2 * vw * (2 * vh) := Nat.mul_le_mul (show 4 ≤ 2 * vw by omega) (show 4 ≤ 2 * vh by omega)
          exact go_ret (ev_call (vs := [.ref b, .int (n : Int), .int ((2 * vw : Nat) : Int), .int ((2 * vh : Nat) : Int)]) (ea_cons (ev_var rfl) (ea_cons (ev_var rfl) (ea_cons (ev_is (v := .int (4 + 2 * (z % 7))) (by walk_at "ev") (congrArg V.int (by omega))) (ea_cons (ev_is (v := .int (4 + 2 * (z / 7 % 7))) (by walk_at "ev") (congrArg V.int (by omega))) ea_nil)))) (spv__law_refused hb6 n0 n1 hr (by omega) (by omega) (by omega) (by omega) (pow_big n0 hp))) fun H8 _ => q H8
end BT
/-! ### what the top has written -/
namespace BT
open PySem PySem.Spec PyProof.Rows L2 Evl
theorem all_mk {l : PySem.W.OpenLaw} {w : World} {K : PySem.W.Frag} {h : Heap} {mg : Str → Option Value} {fa f1 f2 f3 f4 f5 f6 f7 f8 f9 f10 f11 f12 f13 f14 f15 f16 f17 C_BlockError C_TooLong C_TooMany : Addr} (X : K.In h) (G : h.Ns mainGlobals mg) (hfa : mg "law" = some (.ref fa))
    {od1 an1 od2 an2 od3 an3 od4 an4 od5 an5 od6 an6 od7 an7 od8 an8 od9 an9 od10 an10 od11 an11 od12 an12 od13 an13 od14 an14 od15 an15 od16 an16 od17 an17 : Option Addr} {sl1 sl2 sl3 sl4 sl5 sl6 sl7 sl8 sl9 sl10 sl11 sl12 sl13 sl14 sl15 sl16 sl17 : Array (Option Value)} {oc1 kV1 dc1 pm1 cd1 ct1 oc2 kV2 dc2 pm2 cd2 ct2 oc3 kV3 dc3 pm3 cd3 ct3 oc4 kV4 dc4 pm4 cd4 ct4 oc5 kV5 dc5 pm5 cd5 ct5 oc6 kV6 dc6 pm6 cd6 ct6 oc7 kV7 dc7 pm7 cd7 ct7 oc8 kV8 dc8 pm8 cd8 ct8 oc9 kV9 dc9 pm9 cd9 ct9 oc10 kV10 dc10 pm10 cd10 ct10 oc11 kV11 dc11 pm11 cd11 ct11 oc12 kV12 dc12 pm12 cd12 ct12 oc13 kV13 dc13 pm13 cd13 ct13 oc14 kV14 dc14 pm14 cd14 ct14 oc15 kV15 dc15 pm15 cd15 ct15 oc16 kV16 dc16 pm16 cd16 ct16 oc17 kV17 dc17 pm17 cd17 ct17 : Value}
    (a1 : PySem.W.nsIn K mainGlobals "block_of" = some (some (.ref f1))) (l1 : K.lookup f1 = some ⟨oc1, od1, .func (PySem.W.fnOf "block_of" "block_of" (defArgs s_block_of) (defBody s_block_of) (defScope s_block_of) .none kV1 dc1 pm1 an1 cd1 ct1), sl1⟩) (c1 : PySem.W.codeIn K cd1 "block_of" = true) (k1 : PySem.W.keepIn K (.ref f1) = true)
    (a2 : PySem.W.nsIn K mainGlobals "number_of" = some (some (.ref f2))) (l2 : K.lookup f2 = some ⟨oc2, od2, .func (PySem.W.fnOf "number_of" "number_of" (defArgs s_number_of) (defBody s_number_of) (defScope s_number_of) .none kV2 dc2 pm2 an2 cd2 ct2), sl2⟩) (c2 : PySem.W.codeIn K cd2 "number_of" = true) (k2 : PySem.W.keepIn K (.ref f2) = true)
    (a3 : PySem.W.nsIn K mainGlobals "rule_back" = some (some (.ref f3))) (l3 : K.lookup f3 = some ⟨oc3, od3, .func (PySem.W.fnOf "rule_back" "rule_back" (defArgs s_rule_back) (defBody s_rule_back) (defScope s_rule_back) .none kV3 dc3 pm3 an3 cd3 ct3), sl3⟩) (c3 : PySem.W.codeIn K cd3 "rule_back" = true) (k3 : PySem.W.keepIn K (.ref f3) = true)
    (a4 : PySem.W.nsIn K mainGlobals "done" = some (some (.ref f4))) (l4 : K.lookup f4 = some ⟨oc4, od4, .func (PySem.W.fnOf "done" "done" (defArgs s_done) (defBody s_done) (defScope s_done) .none kV4 dc4 pm4 an4 cd4 ct4), sl4⟩) (c4 : PySem.W.codeIn K cd4 "done" = true) (k4 : PySem.W.keepIn K (.ref f4) = true)
    (a5 : PySem.W.nsIn K mainGlobals "forward" = some (some (.ref f5))) (l5 : K.lookup f5 = some ⟨oc5, od5, .func (PySem.W.fnOf "forward" "forward" (defArgs s_forward) (defBody s_forward) (defScope s_forward) .none kV5 dc5 pm5 an5 cd5 ct5), sl5⟩) (c5 : PySem.W.codeIn K cd5 "forward" = true) (k5 : PySem.W.keepIn K (.ref f5) = true)
    (a6 : PySem.W.nsIn K mainGlobals "all_boards" = some (some (.ref f6))) (l6 : K.lookup f6 = some ⟨oc6, od6, .func (PySem.W.fnOf "all_boards" "all_boards" (defArgs s_all_boards) (defBody s_all_boards) (defScope s_all_boards) .none kV6 dc6 pm6 an6 cd6 ct6), sl6⟩) (c6 : PySem.W.codeIn K cd6 "all_boards" = true) (k6 : PySem.W.keepIn K (.ref f6) = true)
    (a7 : PySem.W.nsIn K mainGlobals "count_of" = some (some (.ref f7))) (l7 : K.lookup f7 = some ⟨oc7, od7, .func (PySem.W.fnOf "count_of" "count_of" (defArgs s_count_of) (defBody s_count_of) (defScope s_count_of) .none kV7 dc7 pm7 an7 cd7 ct7), sl7⟩) (c7 : PySem.W.codeIn K cd7 "count_of" = true) (k7 : PySem.W.keepIn K (.ref f7) = true)
    (a8 : PySem.W.nsIn K mainGlobals "rings" = some (some (.ref f8))) (l8 : K.lookup f8 = some ⟨oc8, od8, .func (PySem.W.fnOf "rings" "rings" (defArgs s_rings) (defBody s_rings) (defScope s_rings) .none kV8 dc8 pm8 an8 cd8 ct8), sl8⟩) (c8 : PySem.W.codeIn K cd8 "rings" = true) (k8 : PySem.W.keepIn K (.ref f8) = true)
    (a9 : PySem.W.nsIn K mainGlobals "_law_cell_at" = some (some (.ref f9))) (l9 : K.lookup f9 = some ⟨oc9, od9, .func (PySem.W.fnOf "_law_cell_at" "_law_cell_at" (defArgs s__law_cell_at) (defBody s__law_cell_at) (defScope s__law_cell_at) .none kV9 dc9 pm9 an9 cd9 ct9), sl9⟩) (c9 : PySem.W.codeIn K cd9 "_law_cell_at" = true) (k9 : PySem.W.keepIn K (.ref f9) = true)
    (a10 : PySem.W.nsIn K mainGlobals "_law_whole" = some (some (.ref f10))) (l10 : K.lookup f10 = some ⟨oc10, od10, .func (PySem.W.fnOf "_law_whole" "_law_whole" (defArgs s__law_whole) (defBody s__law_whole) (defScope s__law_whole) .none kV10 dc10 pm10 an10 cd10 ct10), sl10⟩) (c10 : PySem.W.codeIn K cd10 "_law_whole" = true) (k10 : PySem.W.keepIn K (.ref f10) = true)
    (a11 : PySem.W.nsIn K mainGlobals "_law_rule_by" = some (some (.ref f11))) (l11 : K.lookup f11 = some ⟨oc11, od11, .func (PySem.W.fnOf "_law_rule_by" "_law_rule_by" (defArgs s__law_rule_by) (defBody s__law_rule_by) (defScope s__law_rule_by) .none kV11 dc11 pm11 an11 cd11 ct11), sl11⟩) (c11 : PySem.W.codeIn K cd11 "_law_rule_by" = true) (k11 : PySem.W.keepIn K (.ref f11) = true)
    (a12 : PySem.W.nsIn K mainGlobals "_law_named" = some (some (.ref f12))) (l12 : K.lookup f12 = some ⟨oc12, od12, .func (PySem.W.fnOf "_law_named" "_law_named" (defArgs s__law_named) (defBody s__law_named) (defScope s__law_named) .none kV12 dc12 pm12 an12 cd12 ct12), sl12⟩) (c12 : PySem.W.codeIn K cd12 "_law_named" = true) (k12 : PySem.W.keepIn K (.ref f12) = true)
    (a13 : PySem.W.nsIn K mainGlobals "_law_step" = some (some (.ref f13))) (l13 : K.lookup f13 = some ⟨oc13, od13, .func (PySem.W.fnOf "_law_step" "_law_step" (defArgs s__law_step) (defBody s__law_step) (defScope s__law_step) .none kV13 dc13 pm13 an13 cd13 ct13), sl13⟩) (c13 : PySem.W.codeIn K cd13 "_law_step" = true) (k13 : PySem.W.keepIn K (.ref f13) = true)
    (a14 : PySem.W.nsIn K mainGlobals "_law_boards" = some (some (.ref f14))) (l14 : K.lookup f14 = some ⟨oc14, od14, .func (PySem.W.fnOf "_law_boards" "_law_boards" (defArgs s__law_boards) (defBody s__law_boards) (defScope s__law_boards) .none kV14 dc14 pm14 an14 cd14 ct14), sl14⟩) (c14 : PySem.W.codeIn K cd14 "_law_boards" = true) (k14 : PySem.W.keepIn K (.ref f14) = true)
    (a15 : PySem.W.nsIn K mainGlobals "_law_rings" = some (some (.ref f15))) (l15 : K.lookup f15 = some ⟨oc15, od15, .func (PySem.W.fnOf "_law_rings" "_law_rings" (defArgs s__law_rings) (defBody s__law_rings) (defScope s__law_rings) .none kV15 dc15 pm15 an15 cd15 ct15), sl15⟩) (c15 : PySem.W.codeIn K cd15 "_law_rings" = true) (k15 : PySem.W.keepIn K (.ref f15) = true)
    (a16 : PySem.W.nsIn K mainGlobals "_law_refused" = some (some (.ref f16))) (l16 : K.lookup f16 = some ⟨oc16, od16, .func (PySem.W.fnOf "_law_refused" "_law_refused" (defArgs s__law_refused) (defBody s__law_refused) (defScope s__law_refused) .none kV16 dc16 pm16 an16 cd16 ct16), sl16⟩) (c16 : PySem.W.codeIn K cd16 "_law_refused" = true) (k16 : PySem.W.keepIn K (.ref f16) = true)
    (a17 : PySem.W.nsIn K mainGlobals "law" = some (some (.ref f17))) (l17 : K.lookup f17 = some ⟨oc17, od17, .func (PySem.W.fnOf "law" "law" (defArgs s_law) (defBody s_law) (defScope s_law) .none kV17 dc17 pm17 an17 cd17 ct17), sl17⟩) (c17 : PySem.W.codeIn K cd17 "law" = true) (k17 : PySem.W.keepIn K (.ref f17) = true)
    (nP_BlockError : PySem.W.nsIn K mainGlobals "BlockError" = some (some (.ref C_BlockError))) (xP_BlockError : PySem.W.excIn K C_BlockError [.type "ValueError", .type "Exception", .type "BaseException", .type "object"] "ValueError.__new__" = true) (kP_BlockError : PySem.W.keepIn K (.ref C_BlockError) = true) (bP_BlockError : PySem.W.subIn K (.ref C_BlockError) (.type "BaseException") = some true) (vP_BlockError : PySem.W.subIn K (.ref C_BlockError) (.type "ValueError") = some true) (tP_BlockError : PySem.W.typeIn K (.ref C_BlockError) = some (.type "type")) (iP_BlockError : PySem.W.isClsIn K C_BlockError = true) (sP_BlockError : PySem.W.subIn K (.ref C_BlockError) (.ref C_BlockError) = some true)
    (eg_BlockError : PySem.W.findIn K (.ref C_BlockError) "__getattribute__" = some (some (.builtin "BaseException.__getattribute__"))) (ek_BlockError : PySem.W.findIn K (.ref C_BlockError) "__getattr__" = some none) (ed_BlockError : PySem.W.hasDictIn K C_BlockError = true) (ea_BlockError : PySem.W.findIn K (.ref C_BlockError) "__class__" = some (some (.builtin "object.__class__"))) (em_BlockError : PySem.W.mroIn K C_BlockError (.type "object") = some true)
    (nP_TooLong : PySem.W.nsIn K mainGlobals "TooLong" = some (some (.ref C_TooLong))) (xP_TooLong : PySem.W.excIn K C_TooLong [.type "ValueError", .type "Exception", .type "BaseException", .type "object"] "ValueError.__new__" = true) (kP_TooLong : PySem.W.keepIn K (.ref C_TooLong) = true) (bP_TooLong : PySem.W.subIn K (.ref C_TooLong) (.type "BaseException") = some true) (vP_TooLong : PySem.W.subIn K (.ref C_TooLong) (.type "ValueError") = some true) (tP_TooLong : PySem.W.typeIn K (.ref C_TooLong) = some (.type "type")) (iP_TooLong : PySem.W.isClsIn K C_TooLong = true) (sP_TooLong : PySem.W.subIn K (.ref C_TooLong) (.ref C_TooLong) = some true)
    (eg_TooLong : PySem.W.findIn K (.ref C_TooLong) "__getattribute__" = some (some (.builtin "BaseException.__getattribute__"))) (ek_TooLong : PySem.W.findIn K (.ref C_TooLong) "__getattr__" = some none) (ed_TooLong : PySem.W.hasDictIn K C_TooLong = true) (ea_TooLong : PySem.W.findIn K (.ref C_TooLong) "__class__" = some (some (.builtin "object.__class__"))) (em_TooLong : PySem.W.mroIn K C_TooLong (.type "object") = some true)
    (nP_TooMany : PySem.W.nsIn K mainGlobals "TooMany" = some (some (.ref C_TooMany))) (xP_TooMany : PySem.W.excIn K C_TooMany [.type "ValueError", .type "Exception", .type "BaseException", .type "object"] "ValueError.__new__" = true) (kP_TooMany : PySem.W.keepIn K (.ref C_TooMany) = true) (bP_TooMany : PySem.W.subIn K (.ref C_TooMany) (.type "BaseException") = some true) (vP_TooMany : PySem.W.subIn K (.ref C_TooMany) (.type "ValueError") = some true) (tP_TooMany : PySem.W.typeIn K (.ref C_TooMany) = some (.type "type")) (iP_TooMany : PySem.W.isClsIn K C_TooMany = true) (sP_TooMany : PySem.W.subIn K (.ref C_TooMany) (.ref C_TooMany) = some true)
    (eg_TooMany : PySem.W.findIn K (.ref C_TooMany) "__getattribute__" = some (some (.builtin "BaseException.__getattribute__"))) (ek_TooMany : PySem.W.findIn K (.ref C_TooMany) "__getattr__" = some none) (ed_TooMany : PySem.W.hasDictIn K C_TooMany = true) (ea_TooMany : PySem.W.findIn K (.ref C_TooMany) "__class__" = some (some (.builtin "object.__class__"))) (em_TooMany : PySem.W.mroIn K C_TooMany (.type "object") = some true)
    {V_MOST_BOARDS : Tok} (nC_MOST_BOARDS : PySem.W.nsIn K mainGlobals "MOST_BOARDS" = some (some (Value.int 300 V_MOST_BOARDS)))
    (en_ : PySem.W.specialIn K (.builtin "object.__class__") "__get__" = some (some (.builtin "getset_descriptor.__get__"))) (et_ : PySem.W.takesIn K (.builtin "object.__class__") = some true)
    (s_BlockError_TooLong : PySem.W.subIn K (.ref C_BlockError) (.ref C_TooLong) = some false)
    (s_BlockError_TooMany : PySem.W.subIn K (.ref C_BlockError) (.ref C_TooMany) = some false)
    (s_TooLong_BlockError : PySem.W.subIn K (.ref C_TooLong) (.ref C_BlockError) = some true)
    (s_TooLong_TooMany : PySem.W.subIn K (.ref C_TooLong) (.ref C_TooMany) = some false)
    (s_TooMany_BlockError : PySem.W.subIn K (.ref C_TooMany) (.ref C_BlockError) = some true)
    (s_TooMany_TooLong : PySem.W.subIn K (.ref C_TooMany) (.ref C_TooLong) = some false)
    (z_ValueError : PySem.W.nsIn K mainGlobals "ValueError" = some none)
    (z_bool : PySem.W.nsIn K mainGlobals "bool" = some none)
    (z_int : PySem.W.nsIn K mainGlobals "int" = some none)
    (z_isinstance : PySem.W.nsIn K mainGlobals "isinstance" = some none)
    (z_len : PySem.W.nsIn K mainGlobals "len" = some none)
    (z_list : PySem.W.nsIn K mainGlobals "list" = some none)
    (z_range : PySem.W.nsIn K mainGlobals "range" = some none)
    (z_reversed : PySem.W.nsIn K mainGlobals "reversed" = some none)
    (z_set : PySem.W.nsIn K mainGlobals "set" = some none)
    (z_sorted : PySem.W.nsIn K mainGlobals "sorted" = some none)
    (z_sum : PySem.W.nsIn K mainGlobals "sum" = some none)
    (z_tuple : PySem.W.nsIn K mainGlobals "tuple" = some none)
    : ∃ fd : FuncData, (∀ (s : Shared) (v : Value), BindsTo s fd ⟨[v], []⟩ [("script", v)]) ∧ ∀ base : Heap, K.In base → base.Ns mainGlobals mg → FnOk l.prog w K mg base CX0 6 fa fd ["script"] (sp_law K) := by
  have e := hfa.symm.trans (PySem.W.mg_of X G a17)
  cases e
  have B : Bl mg := ⟨PySem.W.mg_none_of X G z_ValueError, PySem.W.mg_none_of X G z_bool, PySem.W.mg_none_of X G z_int, PySem.W.mg_none_of X G z_isinstance, PySem.W.mg_none_of X G z_len, PySem.W.mg_none_of X G z_list, PySem.W.mg_none_of X G z_range, PySem.W.mg_none_of X G z_reversed, PySem.W.mg_none_of X G z_set, PySem.W.mg_none_of X G z_sorted, PySem.W.mg_none_of X G z_sum, PySem.W.mg_none_of X G z_tuple⟩
  have Cl : Cls K mg C_BlockError C_TooLong C_TooMany := ⟨⟨nP_BlockError, PySem.W.mg_of X G nP_BlockError, xP_BlockError, kP_BlockError, bP_BlockError, vP_BlockError, tP_BlockError, iP_BlockError, sP_BlockError, ⟨eg_BlockError, ek_BlockError, bP_BlockError, ed_BlockError, ea_BlockError, en_, et_, em_BlockError⟩⟩, ⟨nP_TooLong, PySem.W.mg_of X G nP_TooLong, xP_TooLong, kP_TooLong, bP_TooLong, vP_TooLong, tP_TooLong, iP_TooLong, sP_TooLong, ⟨eg_TooLong, ek_TooLong, bP_TooLong, ed_TooLong, ea_TooLong, en_, et_, em_TooLong⟩⟩, ⟨nP_TooMany, PySem.W.mg_of X G nP_TooMany, xP_TooMany, kP_TooMany, bP_TooMany, vP_TooMany, tP_TooMany, iP_TooMany, sP_TooMany, ⟨eg_TooMany, ek_TooMany, bP_TooMany, ed_TooMany, ea_TooMany, en_, et_, em_TooMany⟩⟩, s_BlockError_TooLong, s_BlockError_TooMany, s_TooLong_BlockError, s_TooLong_TooMany, s_TooMany_BlockError, s_TooMany_TooLong⟩
  have F1 := fun_mk (st := s_block_of) l1 c1 k1
  have D1 : DefAt K mg "block_of" s_block_of ["number", "colours"] _ _ := ⟨PySem.W.mg_of X G a1, F1, F1.binds (ps := ["number", "colours"]) fun _ _ _ _ _ _ us hl => match us, hl with | [_, _], _ => rfl⟩
  have F2 := fun_mk (st := s_number_of) l2 c2 k2
  have D2 : DefAt K mg "number_of" s_number_of ["block", "colours"] _ _ := ⟨PySem.W.mg_of X G a2, F2, F2.binds (ps := ["block", "colours"]) fun _ _ _ _ _ _ us hl => match us, hl with | [_, _], _ => rfl⟩
  have F3 := fun_mk (st := s_rule_back) l3 c3 k3
  have D3 : DefAt K mg "rule_back" s_rule_back ["rule"] _ _ := ⟨PySem.W.mg_of X G a3, F3, F3.binds (ps := ["rule"]) fun _ _ _ _ _ _ us hl => match us, hl with | [_], _ => rfl⟩
  have F4 := fun_mk (st := s_done) l4 c4 k4
  have D4 : DefAt K mg "done" s_done ["board", "rule", "colours", "moment"] _ _ := ⟨PySem.W.mg_of X G a4, F4, F4.binds (ps := ["board", "rule", "colours", "moment"]) fun _ _ _ _ _ _ us hl => match us, hl with | [_, _, _, _], _ => rfl⟩
  have F5 := fun_mk (st := s_forward) l5 c5 k5
  have D5 : DefAt K mg "forward" s_forward ["board", "rule", "colours", "moment", "steps"] _ _ := ⟨PySem.W.mg_of X G a5, F5, F5.binds (ps := ["board", "rule", "colours", "moment", "steps"]) fun _ _ _ _ _ _ us hl => match us, hl with | [_, _, _, _, _], _ => rfl⟩
  have F6 := fun_mk (st := s_all_boards) l6 c6 k6
  have D6 : DefAt K mg "all_boards" s_all_boards ["colours", "width", "height"] _ _ := ⟨PySem.W.mg_of X G a6, F6, F6.binds (ps := ["colours", "width", "height"]) fun _ _ _ _ _ _ us hl => match us, hl with | [_, _, _], _ => rfl⟩
  have F7 := fun_mk (st := s_count_of) l7 c7 k7
  have D7 : DefAt K mg "count_of" s_count_of ["colours", "cells"] _ _ := ⟨PySem.W.mg_of X G a7, F7, F7.binds (ps := ["colours", "cells"]) fun _ _ _ _ _ _ us hl => match us, hl with | [_, _], _ => rfl⟩
  have F8 := fun_mk (st := s_rings) l8 c8 k8
  have D8 : DefAt K mg "rings" s_rings ["rule", "colours", "width", "height"] _ _ := ⟨PySem.W.mg_of X G a8, F8, F8.binds (ps := ["rule", "colours", "width", "height"]) fun _ _ _ _ _ _ us hl => match us, hl with | [_, _, _, _], _ => rfl⟩
  have F9 := fun_mk (st := s__law_cell_at) l9 c9 k9
  have D9 : DefAt K mg "_law_cell_at" s__law_cell_at ["script", "k"] _ _ := ⟨PySem.W.mg_of X G a9, F9, F9.binds (ps := ["script", "k"]) fun _ _ _ _ _ _ us hl => match us, hl with | [_, _], _ => rfl⟩
  have F10 := fun_mk (st := s__law_whole) l10 c10 k10
  have D10 : DefAt K mg "_law_whole" s__law_whole ["found"] _ _ := ⟨PySem.W.mg_of X G a10, F10, F10.binds (ps := ["found"]) fun _ _ _ _ _ _ us hl => match us, hl with | [_], _ => rfl⟩
  have F11 := fun_mk (st := s__law_rule_by) l11 c11 k11
  have D11 : DefAt K mg "_law_rule_by" s__law_rule_by ["cell", "colours"] _ _ := ⟨PySem.W.mg_of X G a11, F11, F11.binds (ps := ["cell", "colours"]) fun _ _ _ _ _ _ us hl => match us, hl with | [_, _], _ => rfl⟩
  have F12 := fun_mk (st := s__law_named) l12 c12 k12
  have D12 : DefAt K mg "_law_named" s__law_named ["kind", "number"] _ _ := ⟨PySem.W.mg_of X G a12, F12, F12.binds (ps := ["kind", "number"]) fun _ _ _ _ _ _ us hl => match us, hl with | [_, _], _ => rfl⟩
  have F13 := fun_mk (st := s__law_step) l13 c13 k13
  have D13 : DefAt K mg "_law_step" s__law_step ["board", "rule", "colours", "moment"] _ _ := ⟨PySem.W.mg_of X G a13, F13, F13.binds (ps := ["board", "rule", "colours", "moment"]) fun _ _ _ _ _ _ us hl => match us, hl with | [_, _, _, _], _ => rfl⟩
  have F14 := fun_mk (st := s__law_boards) l14 c14 k14
  have D14 : DefAt K mg "_law_boards" s__law_boards ["colours", "width", "height"] _ _ := ⟨PySem.W.mg_of X G a14, F14, F14.binds (ps := ["colours", "width", "height"]) fun _ _ _ _ _ _ us hl => match us, hl with | [_, _, _], _ => rfl⟩
  have F15 := fun_mk (st := s__law_rings) l15 c15 k15
  have D15 : DefAt K mg "_law_rings" s__law_rings ["rule", "colours", "width", "height"] _ _ := ⟨PySem.W.mg_of X G a15, F15, F15.binds (ps := ["rule", "colours", "width", "height"]) fun _ _ _ _ _ _ us hl => match us, hl with | [_, _, _, _], _ => rfl⟩
  have F16 := fun_mk (st := s__law_refused) l16 c16 k16
  have D16 : DefAt K mg "_law_refused" s__law_refused ["rule", "colours", "width", "height"] _ _ := ⟨PySem.W.mg_of X G a16, F16, F16.binds (ps := ["rule", "colours", "width", "height"]) fun _ _ _ _ _ _ us hl => match us, hl with | [_, _, _, _], _ => rfl⟩
  have F17 := fun_mk (st := s_law) l17 c17 k17
  have D17 : DefAt K mg "law" s_law ["script"] _ _ := ⟨PySem.W.mg_of X G a17, F17, F17.binds (ps := ["script"]) fun _ _ _ _ _ _ us hl => match us, hl with | [_], _ => rfl⟩
  refine ⟨PySem.W.fnOf "law" "law" (defArgs s_law) (defBody s_law) (defScope s_law) .none kV17 dc17 pm17 an17 cd17 ct17, fun s v => .of_eq rfl, fun base _ _ => ?_⟩
  have C__law_cell_at := cal__law_cell_at (P := l.prog) (w := w) (base := base) B D9 
  have C__law_named := cal__law_named (P := l.prog) (w := w) (base := base) B D12 
  have C__law_rule_by := cal__law_rule_by (P := l.prog) (w := w) (base := base) B D11 C__law_named
  have C__law_boards := cal__law_boards (P := l.prog) (w := w) (base := base) B D14 
  have C__law_step := cal__law_step (P := l.prog) (w := w) (base := base) B D13 
  have C__law_rings := cal__law_rings (P := l.prog) (w := w) (base := base) B D15 C__law_boards C__law_step
  have C_count_of := cal_count_of (P := l.prog) (w := w) (base := base) B D7 (PySem.W.mg_of X G nC_MOST_BOARDS) 
  have C_all_boards := cal_all_boards (P := l.prog) (w := w) (base := base) B D6 
  have C_number_of := cal_number_of (P := l.prog) (w := w) (base := base) B D2 
  have C_block_of := cal_block_of (P := l.prog) (w := w) (base := base) B D1 
  have C_done := cal_done (P := l.prog) (w := w) (base := base) B D4 C_number_of C_block_of
  have C_forward := cal_forward (P := l.prog) (w := w) (base := base) B D5 C_done
  have C_rings := cal_rings (P := l.prog) (w := w) (base := base) B D8 Cl (PySem.W.mg_of X G nC_MOST_BOARDS) C_count_of C_all_boards C_forward
  have C__law_whole := cal__law_whole (P := l.prog) (w := w) (base := base) B D10 
  have C_rule_back := cal_rule_back (P := l.prog) (w := w) (base := base) B D3 
  have C__law_refused := cal__law_refused (P := l.prog) (w := w) (base := base) B D16 Cl C_rings
  exact ok_law (P := l.prog) (w := w) (base := base) B D17 C__law_cell_at C__law_rule_by C__law_rings C_rings C__law_whole C_rule_back C__law_refused
end BT
open PySem PySem.W PyProof.Rows
set_option maxHeartbeats 0 in
theorem PySem.Challenge.cw_blockturn_k15_whole_all_rings_holds : PySem.Challenge.rw_blockturn_k15_whole_all_rings.Holds := by
  w_on; o_law; k_head; (case hw => w_witness2)
  k_fill
  refine L2.walk_of (l := PySem.Challenge.rw_blockturn_k15_whole_all_rings) (n := 63) (k := 6) (x := "script") (CX := fun _ => L2.CX0) (sp := fun w => BT.sp_law _) rfl (by decide) rfl ⟨rfl, by decide, by decide⟩ (fun w h Y => PySem.W.kIn_of Y) ?F (fun _ _ a ns hl _ hS => BT.sp_law_of hS hl) (fun _ _ _ _ _ h => h)
  case F =>
    intro w mg fa h KX G hmg
    refine' BT.all_mk KX G hmg ?a1 ?l1 ?c1 ?k1 ?a2 ?l2 ?c2 ?k2 ?a3 ?l3 ?c3 ?k3 ?a4 ?l4 ?c4 ?k4 ?a5 ?l5 ?c5 ?k5 ?a6 ?l6 ?c6 ?k6 ?a7 ?l7 ?c7 ?k7 ?a8 ?l8 ?c8 ?k8 ?a9 ?l9 ?c9 ?k9 ?a10 ?l10 ?c10 ?k10 ?a11 ?l11 ?c11 ?k11 ?a12 ?l12 ?c12 ?k12 ?a13 ?l13 ?c13 ?k13 ?a14 ?l14 ?c14 ?k14 ?a15 ?l15 ?c15 ?k15 ?a16 ?l16 ?c16 ?k16 ?a17 ?l17 ?c17 ?k17 ?nP_BlockError ?xP_BlockError ?kP_BlockError ?bP_BlockError ?vP_BlockError ?tP_BlockError ?iP_BlockError ?sP_BlockError ?eg_BlockError ?ek_BlockError ?ed_BlockError ?ea_BlockError ?em_BlockError ?nP_TooLong ?xP_TooLong ?kP_TooLong ?bP_TooLong ?vP_TooLong ?tP_TooLong ?iP_TooLong ?sP_TooLong ?eg_TooLong ?ek_TooLong ?ed_TooLong ?ea_TooLong ?em_TooLong ?nP_TooMany ?xP_TooMany ?kP_TooMany ?bP_TooMany ?vP_TooMany ?tP_TooMany ?iP_TooMany ?sP_TooMany ?eg_TooMany ?ek_TooMany ?ed_TooMany ?ea_TooMany ?em_TooMany ?nC_MOST_BOARDS ?en_ ?et_ ?s_BlockError_TooLong ?s_BlockError_TooMany ?s_TooLong_BlockError ?s_TooLong_TooMany ?s_TooMany_BlockError ?s_TooMany_TooLong ?z_ValueError ?z_bool ?z_int ?z_isinstance ?z_len ?z_list ?z_range ?z_reversed ?z_set ?z_sorted ?z_sum ?z_tuple
    (case a1 => k_is); (case l1 => k_is); (case c1 => k_is); (case k1 => k_is); (case a2 => k_is); (case l2 => k_is); (case c2 => k_is); (case k2 => k_is); (case a3 => k_is); (case l3 => k_is); (case c3 => k_is); (case k3 => k_is); (case a4 => k_is); (case l4 => k_is); (case c4 => k_is); (case k4 => k_is); (case a5 => k_is); (case l5 => k_is); (case c5 => k_is); (case k5 => k_is); (case a6 => k_is); (case l6 => k_is); (case c6 => k_is); (case k6 => k_is); (case a7 => k_is); (case l7 => k_is); (case c7 => k_is); (case k7 => k_is); (case a8 => k_is); (case l8 => k_is); (case c8 => k_is); (case k8 => k_is); (case a9 => k_is); (case l9 => k_is); (case c9 => k_is); (case k9 => k_is); (case a10 => k_is); (case l10 => k_is); (case c10 => k_is); (case k10 => k_is); (case a11 => k_is); (case l11 => k_is); (case c11 => k_is); (case k11 => k_is); (case a12 => k_is); (case l12 => k_is); (case c12 => k_is); (case k12 => k_is); (case a13 => k_is); (case l13 => k_is); (case c13 => k_is); (case k13 => k_is); (case a14 => k_is); (case l14 => k_is); (case c14 => k_is); (case k14 => k_is); (case a15 => k_is); (case l15 => k_is); (case c15 => k_is); (case k15 => k_is); (case a16 => k_is); (case l16 => k_is); (case c16 => k_is); (case k16 => k_is); (case a17 => k_is); (case l17 => k_is); (case c17 => k_is); (case k17 => k_is); (case nP_BlockError => k_is); (case xP_BlockError => k_exc); (case kP_BlockError => k_is); (case bP_BlockError => k_is); (case vP_BlockError => k_is); (case tP_BlockError => k_is); (case iP_BlockError => k_is); (case sP_BlockError => k_is); (case eg_BlockError => k_is); (case ek_BlockError => k_is); (case ed_BlockError => k_is); (case ea_BlockError => k_is); (case em_BlockError => k_is); (case nP_TooLong => k_is); (case xP_TooLong => k_exc); (case kP_TooLong => k_is); (case bP_TooLong => k_is); (case vP_TooLong => k_is); (case tP_TooLong => k_is); (case iP_TooLong => k_is); (case sP_TooLong => k_is); (case eg_TooLong => k_is); (case ek_TooLong => k_is); (case ed_TooLong => k_is); (case ea_TooLong => k_is); (case em_TooLong => k_is); (case nP_TooMany => k_is); (case xP_TooMany => k_exc); (case kP_TooMany => k_is); (case bP_TooMany => k_is); (case vP_TooMany => k_is); (case tP_TooMany => k_is); (case iP_TooMany => k_is); (case sP_TooMany => k_is); (case eg_TooMany => k_is); (case ek_TooMany => k_is); (case ed_TooMany => k_is); (case ea_TooMany => k_is); (case em_TooMany => k_is); (case nC_MOST_BOARDS => k_is); (case en_ => k_is); (case et_ => k_is); (case s_BlockError_TooLong => k_is); (case s_BlockError_TooMany => k_is); (case s_TooLong_BlockError => k_is); (case s_TooLong_TooMany => k_is); (case s_TooMany_BlockError => k_is); (case s_TooMany_TooLong => k_is); (case z_ValueError => k_is); (case z_bool => k_is); (case z_int => k_is); (case z_isinstance => k_is); (case z_len => k_is); (case z_list => k_is); (case z_range => k_is); (case z_reversed => k_is); (case z_set => k_is); (case z_sorted => k_is); (case z_sum => k_is); (case z_tuple => k_is)
