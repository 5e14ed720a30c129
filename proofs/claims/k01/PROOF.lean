import PyProof.Rows.All
import Wide.All
import OpenK.AllK
import Wide.FinOn
import HandS.ForExc
import HandS.ForMost
import HandS.Evl
import HandS.IsInst
import HandS.TryOnly
import HandS.ExcIs
import HandS.TupAny
import HandS.TupMul
import HandS.SortInts
import HandS.Codes
import HandS.More
import PySem.Challenge.RW_signalgraph_k01_answers
set_option Elab.async false
set_option linter.all false
set_option maxRecDepth 100000
set_option maxHeartbeats 1000000
/-! The base of all laws: calls of a def by its promise, steps over a known heap (Go). -/
namespace Sg
open PySem L2 Evl

/-! ### a def that may be called by its name -/
structure CalX (P : Program) (w : World) (K : PySem.W.Frag) (mg : Str → Option Value) (base : Heap) (k : Nat) (x : Str) (sp : Sp) : Prop where
  ex : ∃ (f : Addr) (fd : FuncData) (ps : List Str), FnOk P w K mg base (L2.CX P w) k f fd ps sp ∧ mg x = some (.ref f) ∧ PySem.W.keepIn K (.ref f) = true ∧ Binds K fd ps []
theorem pe_cx {X : Cx} {W : WX} {k j : Nat} {x : Str} {sp : Sp} {p pos : Pos} {e : Expr} {es : List Expr} {t : TA} (c : CalX X.prog X.w X.K X.mg X.base k x sp) (hr : Room j X.A) (hk : k ≤ j) (hg : Gl X x) (tk : Takes X W) (ht : PA X (e :: es) t)
    (hdb : (x == ("__debug__" : Str)) = false := by decide) (he : starEach (e :: es) X.env = (false, eval e X.env) :: starEach es X.env := by rfl) (hpl : (backTo pos (starEach es X.env)).any (·.1) = false := by rfl) :
    PE X (.Call (.Name x p) (e :: es) [] pos) (tCallS sp (WE W) t) := by
  obtain ⟨f, fd, ps, F, hm, hkp, hb⟩ := c.ex
  exact pe_callS F (hr.mono hk) hg hm hkp hb (fun σ => passAt tk σ) ht hdb he hpl

/-! ### the heap: more of extension -/
theorem upd_get {H : Hp} {a b : Addr} {o : HO} : upd H a o b = if b = a then some o else H b := rfl
theorem none_upd {H : Hp} {p q : Addr} {o : HO} : upd H p o q = none ↔ q ≠ p ∧ H q = none := by
  rw [upd_get]
  by_cases h : q = p
  · rw [if_pos h]; exact ⟨fun z => (by cases z), fun z => absurd h z.1⟩
  · rw [if_neg h]; exact ⟨fun z => ⟨h, z⟩, fun z => z.2⟩
theorem _root_.Evl.Ex.put {G H : Hp} {p : Addr} {o : HO} (e : Ex G H) : Ex (upd G p o) (upd H p o) := fun a u h => by
  rw [upd_get] at h ⊢
  by_cases q : a = p
  · rw [if_pos q] at h ⊢; exact h
  · rw [if_neg q] at h ⊢; exact e a u h
theorem _root_.Evl.Ex.know {G H : Hp} {p : Addr} {o : HO} (e : Ex G H) (h : H p = some o) (hp : G p = none) : Ex (upd G p o) H := fun a u q => by
  rw [upd_get] at q
  by_cases z : a = p
  · rw [if_pos z] at q; rw [z, h]; exact q
  · rw [if_neg z] at q; exact e a u q
theorem _root_.Evl.Ex.none {G H : Hp} {p : Addr} (e : Ex G H) (h : H p = none) : G p = none := fresh_back e h
theorem ex_of_eq {G H : Hp} (h : G = H) : Ex G H := h ▸ Ex.refl _

/-! ### from a known heap -/
/-- whatever else stands, from what is known (G) the statement brings about what is wanted -/
def Go (t : TS) (D : Ends) (σ : L2.St) (G : Hp) : Prop := ∀ H, Ex G H → t D σ H
/-- an end said of what is known -/
def Kn (P : L2.St → Hp → Prop) : L2.St → Hp → Prop := fun σ H => ∃ G, Ex G H ∧ P σ G
section
variable {K : PySem.W.Frag} {σ : L2.St} {G G' H : Hp} {ta tb te tx : TE} {t u : TT} {x y z v : V} {D : Ends} {tu tw tz ts : TS} {g : TG}
theorem Go.start (h : Go ts D σ G) : ts D σ G := h G (Ex.refl G)
theorem Go.weak (e : Ex G G') (h : Go ts D σ G) : Go ts D σ G' := fun H e2 => h H (e.trans e2)
theorem go_next (h : ∀ H, Ex G H → D.nx σ H) : Go tNext D σ G := h
theorem go_kn {P : L2.St → Hp → Prop} {rt : VK} {bk ct : L2.St → Hp → Prop} (h : P σ G) : Go tNext ⟨Kn P, rt, bk, ct⟩ σ G := fun _ e => ⟨G, e, h⟩
theorem go_up {rt : VK} {bk ct : L2.St → Hp → Prop} {D' : Ends} (h : Go tz D' σ G) : Go tNext ⟨tz D', rt, bk, ct⟩ σ G := h
theorem go_seq (h : Go ts { D with nx := tz D } σ G) : Go (tSeq ts tz) D σ G := h
/-- where a statement's own end is Kn P, what follows goes on from P -/
theorem go_asg {i : Nat} (h : Ev te σ G v) (k : Go tz D (σ.set i (some v)) G) : Go (tSeq (tAsg te (gName i)) tz) D σ G := fun H e =>
  h H e _ fun H1 e1 => k H1 (e.trans e1)
theorem go_asgL {i : Nat} {xs : List V} (h : EvL te σ G xs) (k : ∀ p, G p = none → Go tz D (σ.set i (some (.ref p))) (upd G p (.lst xs))) : Go (tSeq (tAsg te (gName i)) tz) D σ G := fun H e =>
  h H e _ fun p H1 hp e1 h1 => k p (e.none hp) H1 ((e.trans e1).know h1 (e.none hp))
theorem go_asgU {i : Nat} {xs : List V} (h : EvU te σ G xs) (k : ∀ p, G p = none → Go tz D (σ.set i (some (.ref p))) (upd G p (.tup xs))) : Go (tSeq (tAsg te (gName i)) tz) D σ G := fun H e =>
  h H e _ fun p H1 hp e1 h1 => k p (e.none hp) H1 ((e.trans e1).know h1 (e.none hp))
theorem go_drop (h : Ev te σ G v) (k : Go tz D σ G) : Go (tSeq (tDrop te) tz) D σ G := fun H e => h H e _ fun H1 e1 => k H1 (e.trans e1)
theorem go_ret (h : Ev te σ G v) (k : ∀ H, Ex G H → D.rt v H) : Go (tSeq (tRet te) tz) D σ G := fun H e => h H e _ fun H1 e1 => k H1 (e.trans e1)
theorem go_retL {xs : List V} (h : EvL te σ G xs) (k : ∀ p H, G p = none → Ex G H → H p = some (.lst xs) → D.rt (.ref p) H) : Go (tSeq (tRet te) tz) D σ G := fun H e =>
  h H e _ fun p H1 hp e1 h1 => k p H1 (e.none hp) (e.trans e1) h1
theorem go_retU {xs : List V} (h : EvU te σ G xs) (k : ∀ p H, G p = none → Ex G H → H p = some (.tup xs) → D.rt (.ref p) H) : Go (tSeq (tRet te) tz) D σ G := fun H e =>
  h H e _ fun p H1 hp e1 h1 => k p H1 (e.none hp) (e.trans e1) h1
theorem go_if {b : Bool} (h : EvT t σ G b) (h1 : b = true → Go tu { D with nx := tz D } σ G) (h2 : b = false → Go tw { D with nx := tz D } σ G) : Go (tSeq (tIfS t tu tw) tz) D σ G := fun H e =>
  h H e _ fun H1 e1 => by
    cases b with
    | true =>
      show tu { D with nx := tz D } σ H1
      exact h1 rfl H1 (e.trans e1)
    | false =>
      show tw { D with nx := tz D } σ H1
      exact h2 rfl H1 (e.trans e1)
/-- an if without else -/
theorem go_when {b : Bool} (h : EvT t σ G b) (h1 : b = true → Go tu { D with nx := tz D } σ G) (h2 : b = false → Go tz D σ G) : Go (tSeq (tIfS t tu tNext) tz) D σ G := go_if h h1 fun hb => go_up (h2 hb)
theorem go_app {l : Addr} {xs : List V} (ha : Ev ta σ G (.ref l)) (hl : G l = some (.lst xs)) (h : Ev te σ G v) (hz : xs.length < 100000) (k : Go tz D σ (upd G l (.lst (xs ++ [v])))) :
    Go (tSeq (tDrop (tBM K "list" rAppend ta (tCons te tNil))) tz) D σ G := fun H e => ha H e _ fun H1 e1 =>
  ⟨Or.inl ⟨rfl, xs, sq_of (e1 l _ (e l _ hl))⟩, h H1 (e.trans e1) _ fun H2 e2 => ⟨l, xs, v, rfl, rfl, e2 l _ (e1 l _ (e l _ hl)), sz_lt hz, k _ (Ex.put ((e.trans e1).trans e2))⟩⟩
/-- append of an object that is made on the way (or handed back by a call): P says what is known of it -/
theorem go_setL {l : Addr} {xs : List V} {j : Nat} (h : Ev te σ G v) (ho : Ev ta σ G (.ref l)) (hl : G l = some (.lst xs)) (hi : Ev tb σ G (.int (j : Int))) (hj : j < xs.length) (k : Go tz D σ (upd G l (.lst (xs.set j v)))) :
    Go (tSeq (tAsg te (gSub ta tb rSetL)) tz) D σ G := fun H e => h H e _ fun H1 e1 => ho H1 (e.trans e1) _ fun H2 e2 => hi H2 ((e.trans e1).trans e2) _ fun H3 e3 =>
  ⟨l, xs, (j : Int), j, rfl, rfl, (((e.trans e1).trans e2).trans e3) l _ hl, ixN_nat hj, k _ (Ex.put (((e.trans e1).trans e2).trans e3))⟩

/-! ### what evaluates to something of which P holds -/
def EvP (te : TE) (σ : L2.St) (G : Hp) (P : V → Hp → Prop) : Prop := ∀ H, Ex G H → ∀ Q : VK, (∀ v G' H', Ex G G' → Ex G' H' → Ex H H' → P v G' → Q v H') → te σ H Q
theorem EvP.of (h : Ev te σ G v) : EvP te σ G fun x G' => x = v ∧ G' = G := fun H e Q q => h H e Q fun H1 e1 => q v G H1 (Ex.refl G) (e.trans e1) e1 ⟨rfl, rfl⟩
theorem go_asgP {i : Nat} {P : V → Hp → Prop} (h : EvP te σ G P) (k : ∀ v G', Ex G G' → P v G' → Go tz D (σ.set i (some v)) G') : Go (tSeq (tAsg te (gName i)) tz) D σ G := fun H e =>
  h H e _ fun v G' H1 e1 e2 _ p => k v G' e1 p H1 e2
theorem go_retP {P : V → Hp → Prop} (h : EvP te σ G P) (k : ∀ v G' H, Ex G G' → Ex G' H → P v G' → D.rt v H) : Go (tSeq (tRet te) tz) D σ G := fun H e =>
  h H e _ fun v G' H1 e1 e2 _ p => k v G' H1 e1 e2 p
theorem go_dropP {P : V → Hp → Prop} (h : EvP te σ G P) (k : ∀ v G', Ex G G' → P v G' → Go tz D σ G') : Go (tSeq (tDrop te) tz) D σ G := fun H e =>
  h H e _ fun v G' H1 e1 e2 _ p => k v G' e1 p H1 e2
theorem go_appP {P : V → Hp → Prop} {l : Addr} {xs : List V} (ha : Ev ta σ G (.ref l)) (hl : G l = some (.lst xs)) (h : EvP te σ G P) (hz : xs.length < 100000)
    (k : ∀ v G', Ex G G' → P v G' → Go tz D σ (upd G' l (.lst (xs ++ [v])))) :
    Go (tSeq (tDrop (tBM K "list" rAppend ta (tCons te tNil))) tz) D σ G := fun H e => ha H e _ fun H1 e1 =>
  ⟨Or.inl ⟨rfl, xs, sq_of (e1 l _ (e l _ hl))⟩, h H1 (e.trans e1) _ fun v G' H2 g1 g2 e2 p => ⟨l, xs, v, rfl, rfl, e2 l _ (e1 l _ (e l _ hl)), sz_lt hz, k v G' g1 p _ (Ex.put g2)⟩⟩
theorem go_setLP {P : V → Hp → Prop} {l : Addr} {xs : List V} {j : Nat} (h : EvP te σ G P) (ho : ∀ G', Ex G G' → Ev ta σ G' (.ref l)) (hl : G l = some (.lst xs)) (hi : ∀ G', Ex G G' → Ev tb σ G' (.int (j : Int))) (hj : j < xs.length)
    (k : ∀ v G', Ex G G' → P v G' → Go tz D σ (upd G' l (.lst (xs.set j v)))) :
    Go (tSeq (tAsg te (gSub ta tb rSetL)) tz) D σ G := fun H e => h H e _ fun v G' H1 g1 g2 e1 p => ho G' g1 H1 g2 _ fun H2 e2 => hi G' g1 H2 (g2.trans e2) _ fun H3 e3 =>
  ⟨l, xs, (j : Int), j, rfl, rfl, e3 l _ (e2 l _ (g2 l _ (g1 l _ hl))), ixN_nat hj, k v G' g1 p _ (Ex.put ((g2.trans e2).trans e3))⟩
/-- arguments of which P holds -/
def EvAP (ta : TA) (σ : L2.St) (G : Hp) (P : List V → Hp → Prop) : Prop := ∀ H, Ex G H → ∀ Q : List V → Hp → Prop, (∀ vs G' H', Ex G G' → Ex G' H' → Ex H H' → P vs G' → Q vs H') → ta σ H Q
theorem EvAP.of {ta : TA} {vs : List V} (h : EvA ta σ G vs) : EvAP ta σ G fun xs G' => xs = vs ∧ G' = G := fun H e Q q => h H e Q fun H1 e1 => q vs G H1 (Ex.refl G) (e.trans e1) e1 ⟨rfl, rfl⟩
theorem eap_nil : EvAP tNil σ G fun xs G' => xs = [] ∧ G' = G := EvAP.of ea_nil
theorem eap_cons {tr : TA} {P : V → Hp → Prop} {R : V → List V → Hp → Prop} (h : EvP te σ G P) (hr : ∀ v G', Ex G G' → P v G' → EvAP tr σ G' (R v)) :
    EvAP (tCons te tr) σ G fun xs G' => ∃ v vs G1, xs = v :: vs ∧ Ex G G1 ∧ Ex G1 G' ∧ P v G1 ∧ R v vs G' := fun H e Q q =>
  h H e _ fun v G1 H1 g1 g2 e1 p => hr v G1 g1 p H1 g2 _ fun vs G2 H2 k1 k2 e2 r => q (v :: vs) G2 H2 (g1.trans k1) k2 (e1.trans e2) ⟨v, vs, G1, rfl, g1, k1, p, r⟩
theorem ep_L {xs : List V} (h : EvL te σ G xs) : EvP te σ G fun v G' => ∃ p, v = .ref p ∧ G p = none ∧ G' = upd G p (.lst xs) := fun H e Q q =>
  h H e Q fun p H1 hp e1 h1 => q _ (upd G p (.lst xs)) H1 (Ex.new (e.none hp)) ((e.trans e1).know h1 (e.none hp)) e1 ⟨p, rfl, e.none hp, rfl⟩
theorem ep_U {xs : List V} (h : EvU te σ G xs) : EvP te σ G fun v G' => ∃ p, v = .ref p ∧ G p = none ∧ G' = upd G p (.tup xs) := fun H e Q q =>
  h H e Q fun p H1 hp e1 h1 => q _ (upd G p (.tup xs)) H1 (Ex.new (e.none hp)) ((e.trans e1).know h1 (e.none hp)) e1 ⟨p, rfl, e.none hp, rfl⟩
/-- a tuple of what is made on the way -/
theorem ep_tup {ta : TA} {P : List V → Hp → Prop} {R : V → Hp → Prop} (h : EvAP ta σ G P) (hl : ∀ vs G', P vs G' → vs.length ≤ 100000) (hR : ∀ vs G' p, Ex G G' → P vs G' → G' p = none → R (.ref p) (upd G' p (.tup vs))) : EvP (tTup ta) σ G R := fun H e Q q =>
  h H e _ fun vs G' H1 g1 g2 e1 p => ⟨sz_of (hl vs G' p), fun a ha => q _ (upd G' a (.tup vs)) _ (g1.trans (Ex.new (g2.none ha))) (Ex.put g2) (e1.trans (Ex.new ha)) (hR vs G' a g1 p (g2.none ha))⟩
theorem ep_lst {ta : TA} {P : List V → Hp → Prop} {R : V → Hp → Prop} (h : EvAP ta σ G P) (hl : ∀ vs G', P vs G' → vs.length ≤ 100000) (hR : ∀ vs G' p, Ex G G' → P vs G' → G' p = none → R (.ref p) (upd G' p (.lst vs))) : EvP (tLst ta) σ G R := fun H e Q q =>
  h H e _ fun vs G' H1 g1 g2 e1 p => ⟨sz_of (hl vs G' p), fun a ha => q _ (upd G' a (.lst vs)) _ (g1.trans (Ex.new (g2.none ha))) (Ex.put g2) (e1.trans (Ex.new ha)) (hR vs G' a g1 p (g2.none ha))⟩

/-! ### calls of defs: what a promise gives -/
/-- the def hands back v -/
def SpG (sp : Sp) (vs : List V) (G : Hp) (P : V → Hp → Prop) : Prop := ∀ H, Ex G H → ∀ Q : VK, ∀ E : XK, (∀ v G' H', Ex G G' → Ex G' H' → Ex H H' → P v G' → Q v H') → sp vs H Q E
theorem ep_call {sp : Sp} {E : L2.St → XK} {ta : TA} {vs : List V} {P : V → Hp → Prop} (h : EvA ta σ G vs) (hs : SpG sp vs G P) : EvP (tCallS sp E ta) σ G P := fun H e Q q =>
  h H e _ fun H1 e1 => hs H1 (e.trans e1) Q (E σ) fun v G' H' g1 g2 e2 p => q v G' H' g1 g2 (e1.trans e2) p
theorem ep_callP {sp : Sp} {E : L2.St → XK} {ta : TA} {A : List V → Hp → Prop} {P : V → Hp → Prop} (h : EvAP ta σ G A) (hs : ∀ vs G', Ex G G' → A vs G' → SpG sp vs G' P) : EvP (tCallS sp E ta) σ G P := fun H e Q q =>
  h H e _ fun vs G1 H1 g1 g2 e1 p => hs vs G1 g1 p H1 g2 Q (E σ) fun v G' H' k1 k2 e2 p2 => q v G' H' (g1.trans k1) k2 (e1.trans e2) p2
theorem ev_callS {sp : Sp} {E : L2.St → XK} {ta : TA} {vs : List V} (h : EvA ta σ G vs) (hs : SpV sp vs G z) : Ev (tCallS sp E ta) σ G z := fun H e Q q =>
  h H e _ fun H1 e1 => hs H1 (e.trans e1) Q (fun H2 e2 => q H2 (e1.trans e2)) (E σ)
theorem el_callS {sp : Sp} {E : L2.St → XK} {ta : TA} {vs xs : List V} (h : EvA ta σ G vs) (hs : SpL sp vs G xs) : EvL (tCallS sp E ta) σ G xs := fun H e Q q =>
  h H e _ fun H1 e1 => hs H1 (e.trans e1) Q (fun p H2 hp e2 h2 => q p H2 (fresh_back e1 hp) (e1.trans e2) h2) (E σ)
theorem EvP.imp {P R : V → Hp → Prop} (h : EvP te σ G P) (i : ∀ v G', Ex G G' → P v G' → R v G') : EvP te σ G R := fun H e Q q => h H e Q fun v G' H' g1 g2 e1 p => q v G' H' g1 g2 e1 (i v G' g1 p)
theorem SpG.imp {sp : Sp} {vs : List V} {P R : V → Hp → Prop} (h : SpG sp vs G P) (i : ∀ v G', Ex G G' → P v G' → R v G') : SpG sp vs G R := fun H e Q E q => h H e Q E fun v G' H' g1 g2 e1 p => q v G' H' g1 g2 e1 (i v G' g1 p)

/-! ### more that evaluates -/
theorem ev_chain {r r' : R2} {a b : Bool} (ha : Ev ta σ G x) (hb : Ev tb σ G y) (hr : RV r x y G (.bl a)) (hc : a = true → Ev te σ G z) (hr' : a = true → RV r' y z G (.bl b)) (hb0 : a = false → b = false) :
    Ev (tChain r r' ta tb te) σ G (.bl b) := fun H e Q q => ha H e _ fun H1 e1 => hb H1 (e.trans e1) _ fun H2 e2 => hr H2 ((e.trans e1).trans e2) _ fun H3 e3 => ⟨a, rfl, by
  cases a with
  | true =>
    show te σ H3 _
    exact hc rfl H3 (((e.trans e1).trans e2).trans e3) _ fun H4 e4 => hr' rfl H4 ((((e.trans e1).trans e2).trans e3).trans e4) Q fun H5 e5 => q H5 ((((e1.trans e2).trans e3).trans e4).trans e5)
  | false =>
    show Q (.bl false) H3
    rw [← hb0 rfl]
    exact q H3 ((e1.trans e2).trans e3)⟩
theorem rv_eqI {i j : Int} : RV rEq (.int i) (.int j) G (.bl (decide (i = j))) := fun H1 _ _ q => ⟨rfl, by
  have e : decide (V.int i = V.int j) = decide (i = j) := by simp
  rw [e]; exact q H1 (Ex.refl H1)⟩
theorem rv_eqS {i j : Str} : RV rEq (.str i) (.str j) G (.bl (decide (i = j))) := fun H1 _ _ q => ⟨rfl, by
  have e : decide (V.str i = V.str j) = decide (i = j) := by simp
  rw [e]; exact q H1 (Ex.refl H1)⟩
theorem rv_eqB {i j : Bool} : RV rEq (.bl i) (.bl j) G (.bl (decide (i = j))) := fun H1 _ _ q => ⟨rfl, by
  have e : decide (V.bl i = V.bl j) = decide (i = j) := by simp
  rw [e]; exact q H1 (Ex.refl H1)⟩
theorem rv_neI {i j : Int} : RV rNe (.int i) (.int j) G (.bl (!decide (i = j))) := fun H1 _ _ q => ⟨rfl, by
  have e : decide (V.int i = V.int j) = decide (i = j) := by simp
  rw [e]; exact q H1 (Ex.refl H1)⟩
theorem rv_neS {i j : Str} : RV rNe (.str i) (.str j) G (.bl (!decide (i = j))) := fun H1 _ _ q => ⟨rfl, by
  have e : decide (V.str i = V.str j) = decide (i = j) := by simp
  rw [e]; exact q H1 (Ex.refl H1)⟩
theorem rv_neB {i j : Bool} : RV rNe (.bl i) (.bl j) G (.bl (!decide (i = j))) := fun H1 _ _ q => ⟨rfl, by
  have e : decide (V.bl i = V.bl j) = decide (i = j) := by simp
  rw [e]; exact q H1 (Ex.refl H1)⟩
theorem ev_lenT {p : Addr} {xs : List V} (ha : Ev ta σ G (.ref p)) (h : SqT K G p xs) : Ev (tCB (rLenS K) (tCons ta tNil)) σ G (.int (xs.length : Int)) := fun H1 e Q q =>
  ha H1 e _ fun H2 e2 => ⟨p, xs, rfl, Or.inr (ex_t (e.trans e2) h), q H2 e2⟩
end
/-! ### where the top's things stand -/
structure Ads where
  LEAST : Addr
  SignalError : Addr
  NoSize : Addr
  NoKind : Addr
  NoSources : Addr
  NoLine : Addr
  NoDelay : Addr
  NoValues : Addr
  Ringed : Addr
  NoDeed : Addr
  NoText : Addr
  Board : Addr
/-- what the text's table LEAST says -/
def least (z : Str) : Option Int :=
  if z = "yes" then some 0 else if z = "no" then some 0 else if z = "keep" then some 1 else if z = "not" then some 1 else if z = "both" then some 2 else if z = "either" then some 2 else if z = "unlike" then some 2
  else if z = "pick" then some 3 else if z = "most" then some 3 else none
structure LeastAt (K : PySem.W.Frag) (w : World) (d : Addr) : Prop where
  at_ : ∃ es n, L2.KDict K w d es n
  no : ∀ z, least z = none → PySem.W.nsIn K d z = some none
  yes : ∀ z i, least z = some i → ∃ t, PySem.W.nsIn K d z = some (some (.int i t))
section
variable {X : Cx} {d : Addr}
def rNotLeast (d : Addr) : R2 := fun x y H Q => ∃ z, x = .str z ∧ y = .ref d ∧ Q (.bl (!(least z).isSome)) H
def rItLeast (d : Addr) : R2 := fun x y H Q => ∃ z i, x = .ref d ∧ y = .str z ∧ least z = some i ∧ Q (.int i) H
theorem op_notIn_least (D : LeastAt X.K X.w d) : OpR X (compareOp .NotIn) (rNotLeast d) := by
  obtain ⟨es, n, k⟩ := D.at_
  intro pins s σ H x y v u Q I rx ry h
  obtain ⟨z, rfl, rfl, q⟩ := h
  cases e : least z with
  | none =>
    refine op_notIn_kd k pins s σ H _ _ v u Q I rx ry ⟨z, none, rfl, rfl, D.no z e, ?_⟩
    rw [e] at q; exact q
  | some i =>
    obtain ⟨t, ht⟩ := D.yes z i e
    refine op_notIn_kd k pins s σ H _ _ v u Q I rx ry ⟨z, _, rfl, rfl, ht, ?_⟩
    rw [e] at q; exact q
theorem ix_least (D : LeastAt X.K X.w d) : IxR X (rItLeast d) := by
  obtain ⟨es, n, k⟩ := D.at_
  intro value slice pins s σ H x y v u Q I rx ry h hs
  obtain ⟨z, i, rfl, rfl, e, q⟩ := h
  obtain ⟨t, ht⟩ := D.yes z i e
  refine ix_kdict value slice pins s σ H _ _ v u Q I rx ry ⟨d, z, .int i, rfl, rfl, ?_, q⟩ hs
  exact ⟨es, n, _, k.at_, k.lit, ht, ⟨t, rfl⟩⟩
theorem pe_gv {x : Str} {v : V} {pos : Pos} (hg : Gl X x) (h : ∃ u, X.mg x = some u ∧ RelV v u) (hd : (x == ("__debug__" : Str)) = false := by decide) : PE X (.Name x pos) (tC v) := by
  obtain ⟨u, hm, r⟩ := h
  exact pe_glob hg hm r hd
end

/-! ### what a def's promise says: it hands back what a plain function tells, or refuses as that tells -/
inductive Err | size | kind | sources | line | delay | values | ringed | deed | text
  deriving DecidableEq
def Ads.of (A : Ads) : Err → Addr
  | .size => A.NoSize | .kind => A.NoKind | .sources => A.NoSources | .line => A.NoLine | .delay => A.NoDelay | .values => A.NoValues | .ringed => A.Ringed | .deed => A.NoDeed | .text => A.NoText
def Out {α : Type} (A : Ads) (H : Hp) (Q : VK) (E : XK) (R : Hp → V → Hp → α → Prop) : Except Err α → Prop
  | .ok a => ∀ v H', Ex H H' → R H v H' a → Q v H'
  | .error e => ∀ H', Ex H H' → E (.ref (A.of e)) none H'
/-- a value of its own | a new list -/
def RV1 {α : Type} (f : α → V) : Hp → V → Hp → α → Prop := fun _ v _ a => v = f a
def RL1 {α : Type} (f : α → List V) : Hp → V → Hp → α → Prop := fun H v H' a => ∃ p, v = .ref p ∧ H p = none ∧ H' p = some (.lst (f a))
def RT1 {α : Type} (K : PySem.W.Frag) (f : α → List V) : Hp → V → Hp → α → Prop := fun _ v H' a => ∃ p, v = .ref p ∧ SqT K H' p (f a)
section
variable {α : Type} {A : Ads} {K : PySem.W.Frag} {σ : L2.St} {G H : Hp} {Q : VK} {E : XK} {R : Hp → V → Hp → α → Prop} {tr tz : TS} {D : Ends} {r : Except Err α} {sp : Sp} {vs : List V}
theorem go_raise (h : ∀ D σ H, Ex G H → tr D σ H) : Go (tSeq tr tz) D σ G := fun H e => h _ _ H e
theorem Out.ok {v : V} {H' : Hp} (o : Out A H Q E R r) (a : α) (h : r = .ok a) (e : Ex H H') (q : R H v H' a) : Q v H' := by
  subst h; exact o v H' e q
theorem Out.err {H' : Hp} (o : Out A H Q E R r) (x : Err) (h : r = .error x) (e : Ex H H') : E (.ref (A.of x)) none H' := by
  subst h; exact o H' e
/-- the promise used where it hands back -/
theorem spg_out {a : α} (hsp : ∀ H, Ex G H → ∀ Q E, Out A H Q E R r → sp vs H Q E) (h : r = .ok a) : SpG sp vs G fun v G' => ∃ H0, Ex G H0 ∧ Ex H0 G' ∧ R H0 v G' a := fun H e Q E q =>
  hsp H e Q E (by subst h; exact fun v H' e' p => q v H' H' (e.trans e') (Ex.refl _) e' ⟨H, e, e', p⟩)
theorem spv_out {f : α → V} {a : α} (hsp : ∀ H, Ex G H → ∀ Q E, Out A H Q E (RV1 f) r → sp vs H Q E) (h : r = .ok a) : SpV sp vs G (f a) := fun H e Q q E =>
  hsp H e Q E (by subst h; exact fun v H' e' p => by rw [show v = f a from p]; exact q H' e')
theorem spl_out {f : α → List V} {a : α} (hsp : ∀ H, Ex G H → ∀ Q E, Out A H Q E (RL1 f) r → sp vs H Q E) (h : r = .ok a) : SpL sp vs G (f a) := fun H e Q q E =>
  hsp H e Q E (by subst h; exact fun v H' e' p => by obtain ⟨p, rfl, hp, hl⟩ := p; exact q p H' hp e' hl)
theorem rv_notLeast {z : Str} {d : Addr} : RV (rNotLeast d) (.str z) (.ref d) G (.bl (!(least z).isSome)) := fun H1 _ _ q => ⟨z, rfl, rfl, q H1 (Ex.refl H1)⟩
theorem rv_itLeast {z : Str} {d : Addr} {i : Int} (h : least z = some i) : RV (rItLeast d) (.ref d) (.str z) G (.int i) := fun H1 _ _ q => ⟨z, i, rfl, rfl, h, q H1 (Ex.refl H1)⟩
end

/-! ### items, comprehensions, by lists of data -/
theorem at_map {α : Type} (f : α → V) (xs : List α) (d : α) {k : Int} (h0 : 0 ≤ k) (h1 : k < xs.length) : atI (xs.map f) k = some (f (xs.getD k.toNat d)) := by
  obtain ⟨j, rfl⟩ : ∃ j : Nat, k = (j : Int) := ⟨k.toNat, by omega⟩
  have hj : j < xs.length := by omega
  refine atI_nat ?_
  rw [List.getElem?_map, List.getElem?_eq_getElem hj, Int.toNat_natCast]
  simp [List.getD_eq_getElem?_getD, List.getElem?_eq_getElem hj]
theorem at_list {xs : List V} {j : Nat} {v : V} (h : xs[j]? = some v) : atI xs (j : Int) = some v := atI_nat h
theorem given_all {α : Type} (as : List α) (d : α) (p : α → Bool) (g : α → V) : ∀ n, n ≤ as.length → given n (fun i => p (as.getD i d)) (fun i => g (as.getD i d)) = ((as.take n).filter p).map g
  | 0, _ => rfl
  | n + 1, h => by
    have ih := given_all as d p g n (by omega)
    have hn : n < as.length := by omega
    have e1 : as.getD n d = as[n] := by simp [List.getD_eq_getElem?_getD, List.getElem?_eq_getElem hn]
    have e2 : as.take (n + 1) = as.take n ++ [as[n]] := by rw [List.take_add_one, List.getElem?_eq_getElem hn]; rfl
    rw [e2, List.filter_append, List.map_append]
    by_cases hp : p as[n] = true
    · rw [given_yes (by show p (as.getD n d) = true; rw [e1]; exact hp), ih]
      rw [List.filter_cons, if_pos hp, List.filter_nil, List.map_cons, List.map_nil]
      show _ ++ [g (as.getD n d)] = _
      rw [e1]
    · have hp' : p as[n] = false := by cases h : p as[n] <;> simp_all
      rw [given_no (by show p (as.getD n d) = false; rw [e1]; exact hp'), ih]
      simp [hp']
section
variable {K : PySem.W.Frag} {σ : L2.St} {G G' H : Hp} {ta tb te tx tl : TE} {t u : TT} {x y z v : V} {D : Ends} {tu tw tz ts : TS} {g : TG} {j : Nat} {vs : List Nat}
theorem ev_all {p : Addr} {bs : List Bool} (ha : Ev ta σ G (.ref p)) (h : SqL K G p (bs.map V.bl)) : Ev (tCB (rAll K) (tCons ta tNil)) σ G (.bl (bs.all id)) := fun H1 e Q q =>
  ha H1 e _ fun H2 e2 => ⟨p, bs, rfl, ex_l (e.trans e2) h, q H2 e2⟩
theorem ev_any {p : Addr} {bs : List Bool} (ha : Ev ta σ G (.ref p)) (h : SqL K G p (bs.map V.bl)) : Ev (tCB (rAny K) (tCons ta tNil)) σ G (.bl (bs.any id)) := fun H1 e Q q =>
  ha H1 e _ fun H2 e2 => ⟨p, bs, rfl, ex_l (e.trans e2) h, q H2 e2⟩
theorem ev_allN {bs : List Bool} (ha : EvL ta σ G (bs.map V.bl)) : Ev (tCB (rAll K) (tCons ta tNil)) σ G (.bl (bs.all id)) := fun H1 e Q q =>
  ha H1 e _ fun p H2 _ e2 h2 => ⟨p, bs, rfl, sq_of h2, q H2 e2⟩
theorem ev_anyN {bs : List Bool} (ha : EvL ta σ G (bs.map V.bl)) : Ev (tCB (rAny K) (tCons ta tNil)) σ G (.bl (bs.any id)) := fun H1 e Q q =>
  ha H1 e _ fun p H2 _ e2 h2 => ⟨p, bs, rfl, sq_of h2, q H2 e2⟩
/-- [e for x in xs if t] -/
theorem el_lcF {α : Type} (as : List α) (inj : α → V) (p : α → Bool) (g : α → V) {a : Addr} (h : Ev tl σ G (.ref a)) (hx : SqL K G a (as.map inj)) (hz : as.length ≤ 40000) (hw : ∀ x, wipe ((wipe σ vs).set j (some x)) vs = wipe σ vs)
    (ht : ∀ x, x ∈ as → EvT t ((wipe σ vs).set j (some (inj x))) G (p x)) (he : ∀ x, x ∈ as → p x = true → Ev te ((wipe σ vs).set j (some (inj x))) G (g x)) :
    EvL (tLc (iList K tl) (gName j) t te vs) σ G ((as.filter p).map g) := by
  cases as with
  | nil =>
    have q := el_lcL (K := K) (σ := σ) (H := G) (t := t) (te := te) (tl := tl) (j := j) (vs := vs) (a := a) (xs := []) (fun _ => true) (fun _ => V.non) h hx (Nat.zero_le _) hw (fun i x H1 _ hi => by simp at hi) (fun i x H1 _ hi => by simp at hi)
    exact q
  | cons d r =>
    have key : given (((d :: r).map inj)).length (fun i => p ((d :: r).getD i d)) (fun i => g ((d :: r).getD i d)) = ((d :: r).filter p).map g := by
      rw [List.length_map, given_all (d :: r) d p g _ (Nat.le_refl _), List.take_length]
    rw [← key]
    have item : ∀ (i : Nat) (x : V), ((d :: r).map inj)[i]? = some x → x = inj ((d :: r).getD i d) ∧ (d :: r).getD i d ∈ d :: r := fun i x hi => by
      rw [List.getElem?_map] at hi
      cases e : (d :: r)[i]? with
      | none => rw [e] at hi; cases hi
      | some y =>
        rw [e] at hi
        have e2 : (d :: r).getD i d = y := by rw [List.getD_eq_getElem?_getD, e]; rfl
        exact ⟨by rw [e2]; exact (Option.some.inj hi).symm, by rw [e2]; exact List.mem_of_getElem? e⟩
    refine el_lcL (K := K) _ _ h hx (by rw [List.length_map]; exact hz) hw (fun i x H1 e1 hi => ?_) (fun i x H1 e1 hi hf => ?_)
    · obtain ⟨rfl, hm⟩ := item i x hi
      exact (ht _ hm).mono e1
    · obtain ⟨rfl, hm⟩ := item i x hi
      exact (he _ hm hf).mono e1
theorem et_yes : EvT tYes σ G true := fun H1 _ _ q => q H1 (Ex.refl H1)
/-- [e for x in xs] -/
theorem el_lcA {α : Type} (as : List α) (inj : α → V) (g : α → V) {a : Addr} (h : Ev tl σ G (.ref a)) (hx : SqL K G a (as.map inj)) (hz : as.length ≤ 40000) (hw : ∀ x, wipe ((wipe σ vs).set j (some x)) vs = wipe σ vs)
    (he : ∀ x, x ∈ as → Ev te ((wipe σ vs).set j (some (inj x))) G (g x)) : EvL (tLc (iList K tl) (gName j) tYes te vs) σ G (as.map g) := by
  have q := el_lcF (K := K) (te := te) as inj (fun _ => true) g h hx hz hw (fun _ _ => et_yes) (fun x hx _ => he x hx)
  have e : as.filter (fun _ => true) = as := List.filter_eq_self.mpr fun _ _ => rfl
  rw [e] at q
  exact q
/-- [e for k in range(n) if t] -/
theorem el_lcRF {ta : TA} {n : Int} (p : Int → Bool) (g : Int → V) (h : EvA ta σ G [.int n]) (hn : 0 ≤ n ∧ n ≤ 40000) (hw : ∀ x, wipe ((wipe σ vs).set j (some x)) vs = wipe σ vs)
    (ht : ∀ k : Int, 0 ≤ k → k < n → EvT t ((wipe σ vs).set j (some (.int k))) G (p k)) (he : ∀ k : Int, 0 ≤ k → k < n → p k = true → Ev te ((wipe σ vs).set j (some (.int k))) G (g k)) :
    EvL (tLc (iRng1 ta) (gName j) t te vs) σ G (((List.range n.toNat).filter fun i : Nat => p (i : Int)).map fun i : Nat => g (i : Int)) := by
  have q := el_lcR1 (σ := σ) (H := G) (t := t) (te := te) (j := j) (vs := vs) (n := n) (fun i : Nat => p (i : Int)) (fun i : Nat => g (i : Int)) h hn hw (fun i H1 e1 hi => (ht i (by omega) hi).mono e1) (fun i H1 e1 hi hf => (he i (by omega) hi hf).mono e1)
  exact q
theorem el_lcR {ta : TA} {n : Int} (g : Int → V) (h : EvA ta σ G [.int n]) (hn : 0 ≤ n ∧ n ≤ 40000) (hw : ∀ x, wipe ((wipe σ vs).set j (some x)) vs = wipe σ vs)
    (he : ∀ k : Int, 0 ≤ k → k < n → Ev te ((wipe σ vs).set j (some (.int k))) G (g k)) :
    EvL (tLc (iRng1 ta) (gName j) tYes te vs) σ G ((List.range n.toNat).map fun i : Nat => g (i : Int)) := by
  have q := el_lcRF (te := te) (fun _ => true) g h hn hw (fun _ _ _ => et_yes) (fun k h0 h1 _ => he k h0 h1)
  have e : (List.range n.toNat).filter (fun _ => true) = List.range n.toNat := List.filter_eq_self.mpr fun _ _ => rfl
  rw [e] at q
  exact q
end

/-! ### what raises; chains -/
def EvF (te : TE) (σ : L2.St) (G : Hp) : Prop := ∀ H, Ex G H → ∀ Q : VK, te σ H Q
section
variable {α : Type} {A : Ads} {K : PySem.W.Frag} {σ : L2.St} {G G' H : Hp} {ta tb te tx tl : TE} {t u : TT} {x y z v : V} {D : Ends} {tu tw tz ts : TS} {g : TG} {Q : VK} {E : XK} {R : Hp → V → Hp → α → Prop} {r : Except Err α} {sp : Sp}
theorem out_err {x : Err} (h : r = .error x) (k : ∀ H', Ex H H' → E (.ref (A.of x)) none H') : Out A H Q E R r := by subst h; exact k
theorem out_ok {a : α} (h : r = .ok a) (k : ∀ v H', Ex H H' → R H v H' a → Q v H') : Out A H Q E R r := by subst h; exact k
theorem ef_call {E : L2.St → XK} {tA : TA} {vs : List V} (h : EvA tA σ G vs) (hs : ∀ H, Ex G H → ∀ Q, sp vs H Q (E σ)) : EvF (tCallS sp E tA) σ G := fun H e Q => h H e _ fun H1 e1 => hs H1 (e.trans e1) Q
theorem go_asgF (h : EvF te σ G) : Go (tSeq (tAsg te g) tz) D σ G := fun H e => h H e _
theorem go_dropF (h : EvF te σ G) : Go (tSeq (tDrop te) tz) D σ G := fun H e => h H e _
theorem go_retF (h : EvF te σ G) : Go (tSeq (tRet te) tz) D σ G := fun H e => h H e _
theorem ef_op1 {r : R2} (h : EvF ta σ G) : EvF (tOp r ta tb) σ G := fun H e _ => h H e _
theorem ev_chI {p q : Int → Int → Bool} {i j k : Int} (ha : Ev ta σ G (.int i)) (hb : Ev tb σ G (.int j)) (hc : Ev te σ G (.int k)) : Ev (tChain (rI0 fun i j => .bl (p i j)) (rI0 fun i j => .bl (q i j)) ta tb te) σ G (.bl (p i j && q j k)) :=
  ev_chain (a := p i j) ha hb rv_I0 (fun _ => hc) (fun h => by rw [h, Bool.true_and]; exact rv_I0) (fun h => by rw [h, Bool.false_and])
end

/-! ### the library's rules, their readings by names -/
section
variable {X : Cx}
def rLenZ : List V → Hp → VK → Prop := fun xs H Q => ∃ z : Str, xs = [.str z] ∧ z.length ≤ sizeLine ∧ Q (.int z.length) H
def rTupS (K : PySem.W.Frag) : List V → Hp → VK → Prop := fun xs H Q => ∃ p ys, xs = [.ref p] ∧ ((SqL K H p ys ∧ ∀ l, H l = none → Q (.ref l) (upd H l (.tup ys))) ∨ (SqT K H p ys ∧ Q (.ref p) H))
def rMin2 : List V → Hp → VK → Prop := fun xs H Q => ∃ i j, xs = [.int i, .int j] ∧ Q (.int (if j < i then j else i)) H
def rInt1 : List V → Hp → VK → Prop := fun xs H Q => (∃ i, xs = [.int i] ∧ Q (.int i) H) ∨ ∃ k, xs = [.bl k] ∧ Q (.int (if k then 1 else 0)) H
def rStrI : List V → Hp → VK → Prop := fun xs H Q => ∃ i, xs = [.int i] ∧ i.natAbs.log2 < 1920 ∧ Q (.str (toString i)) H
def rIntZ : List V → Hp → VK → Prop := fun xs H Q => ∃ a n, xs = [.str a] ∧ PySem.intText? a = some n ∧ a.length ≤ 640 ∧ Q (.int n) H
def rAddZ : R2 := fun x y H Q => ∃ i j, x = .str i ∧ y = .str j ∧ i.length + j.length ≤ sizeLine ∧ Q (.str (i ++ j)) H
theorem call_lenS : CallR X (.builtin "len") (rLenS X.K) := call_len_seq
theorem call_lenZ : CallR X (.builtin "len") rLenZ := call_len_str
theorem call_listS : CallR X (.type "list") (rListS X.K) := call_list_of
theorem call_tupS : CallR X (.type "tuple") (rTupS X.K) := call_tuple_of
theorem call_mx2 (hc : X.calm = true) : CallR X (.builtin "max") rMax2 := call_max2 hc
theorem call_mn2 (hc : X.calm = true) : CallR X (.builtin "min") rMin2 := call_min2 hc
theorem call_intB : CallR X (.type "int") rInt1 := call_int1
theorem call_strI : CallR X (.type "str") rStrI := call_str_int
theorem call_intZ : CallR X (.type "int") rIntZ := call_int_str
theorem op_addZ : OpR X (binaryOp .Add) rAddZ := op_add_str
def tTrue (K : PySem.W.Frag) (ta : TE) : TT := fun σ H Q => ta σ H fun x H' => ∃ k, TruV K x H' k ∧ Q k H'
theorem pt_tru {a : Expr} {ta : TE} (ha : PE X a ta) (he : ∀ whole, isTrue a X.env whole = (do let v ← whole; standAt a.pos; holding [v] (truthy v)) := by intro _; rfl) : PT X a (tTrue X.K ta) := pt_truth ha he
end

/-! ### == of data -/
mutual
theorem eqv_self : ∀ d : PyData, d.canLay0 = true → PyData.eqv d d = true
  | .none, _ => by simp [PyData.eqv]
  | .bool b, _ => by simp [PyData.eqv]
  | .int i, _ => by simp [PyData.eqv]
  | .str x, _ => by simp [PyData.eqv]
  | .list ds, h => by
    rw [PyData.eqv]
    exact eqvAll_self ds (by rw [PyData.canLay0] at h; exact h)
  | .tuple ds, h => by
    rw [PyData.eqv]
    exact eqvAll_self ds (by rw [PyData.canLay0] at h; exact h)
  | .dict _, h => by rw [PyData.canLay0] at h; cases h
theorem eqvAll_self : ∀ ds : List PyData, PyData.canLayAll0 ds = true → PyData.eqvAll ds ds = true
  | [], _ => by simp [PyData.eqvAll]
  | d :: ds, h => by
    rw [PyData.canLayAll0, Bool.and_eq_true] at h
    rw [PyData.eqvAll, eqv_self d h.1, eqvAll_self ds h.2]; rfl
end
mutual
theorem dp_mono {K : PySem.W.Frag} {H H' : Hp} (e : Ex H H') : ∀ (d : PyData) (v : V), Dp K H v d → Dp K H' v d
  | .none, _, h => by cases h; exact .non
  | .bool b, _, h => by cases h; exact .bl b
  | .int i, _, h => by cases h; exact .int i
  | .str x, _, h => by cases h; exact .str x
  | .list ds, _, h => by
    cases h with
    | lst hs ha => exact .lst (ex_l e hs) (dp_monoAll e ds _ ha)
  | .tuple ds, _, h => by
    cases h with
    | tup hs ha => exact .tup (ex_t e hs) (dp_monoAll e ds _ ha)
  | .dict _, _, h => by cases h
theorem dp_monoAll {K : PySem.W.Frag} {H H' : Hp} (e : Ex H H') : ∀ (ds : List PyData) (vs : List V), DpAll K H vs ds → DpAll K H' vs ds
  | [], _, h => by cases h; exact .nil
  | d :: ds, _, h => by
    cases h with
    | cons a b => exact .cons (dp_mono e d _ a) (dp_monoAll e ds _ b)
end
theorem dpAll_map {K : PySem.W.Frag} {H : Hp} {α : Type} (f : α → V) (g : α → PyData) : ∀ as : List α, (∀ a ∈ as, Dp K H (f a) (g a)) → DpAll K H (as.map f) (as.map g)
  | [], _ => .nil
  | a :: as, h => .cons (h a List.mem_cons_self) (dpAll_map f g as fun b hb => h b (List.mem_cons_of_mem _ hb))
theorem dp_bools {K : PySem.W.Frag} {H : Hp} {a : Addr} {bs : List Bool} (h : SqL K H a (bs.map V.bl)) : Dp K H (.ref a) (.list (bs.map .bool)) := .lst h (dpAll_map _ _ bs fun b _ => .bl b)
theorem dp_ints {K : PySem.W.Frag} {H : Hp} {a : Addr} {ns : List Int} (h : SqL K H a (ns.map V.int)) : Dp K H (.ref a) (.list (ns.map .int)) := .lst h (dpAll_map _ _ ns fun b _ => .int b)
theorem canLayAll_map {α : Type} (f : α → PyData) : ∀ as : List α, (∀ a ∈ as, (f a).canLay0 = true) → PyData.canLayAll0 (as.map f) = true
  | [], _ => by simp [PyData.canLayAll0]
  | a :: as, h => by
    rw [List.map_cons, PyData.canLayAll0, h a List.mem_cons_self, canLayAll_map f as fun b hb => h b (List.mem_cons_of_mem _ hb)]; rfl
theorem depthAll_map {α : Type} (f : α → PyData) (n : Nat) : ∀ as : List α, (∀ a ∈ as, (f a).depth ≤ n) → PyData.depthAll (as.map f) ≤ n
  | [], _ => by simp [PyData.depthAll]
  | a :: as, h => by
    rw [List.map_cons, PyData.depthAll]
    exact Nat.max_le.mpr ⟨h a List.mem_cons_self, depthAll_map f n as fun b hb => h b (List.mem_cons_of_mem _ hb)⟩
theorem shaped_bools (bs : List Bool) : SeqAt.shaped (.list (bs.map .bool)) = true := by
  unfold SeqAt.shaped
  rw [PyData.canLay0, PyData.depth, canLayAll_map _ bs fun _ _ => by simp [PyData.canLay0]]
  have := depthAll_map PyData.bool 0 bs fun _ _ => by simp [PyData.depth]
  simp; omega
theorem shaped_ints (ns : List Int) : SeqAt.shaped (.list (ns.map .int)) = true := by
  unfold SeqAt.shaped
  rw [PyData.canLay0, PyData.depth, canLayAll_map _ ns fun _ _ => by simp [PyData.canLay0]]
  have := depthAll_map PyData.int 0 ns fun _ _ => by simp [PyData.depth]
  simp; omega
section
variable {K : PySem.W.Frag} {σ : L2.St} {G : Hp} {x y : V} {d : PyData}
theorem rv_eqD (hx : Dp K G x d) (hy : Dp K G y d) (hs : SeqAt.shaped d = true) : RV (rEqD K) x y G (.bl true) := fun H e Q q =>
  ⟨d, d, dp_mono e d x hx, dp_mono e d y hy, hs, hs, by rw [eqv_self d (SeqAt.canLay_of_shaped hs)]; exact q H (Ex.refl H)⟩
theorem rv_neD (hx : Dp K G x d) (hy : Dp K G y d) (hs : SeqAt.shaped d = true) : RV (rNeD K) x y G (.bl false) := fun H e Q q =>
  ⟨d, d, dp_mono e d x hx, dp_mono e d y hy, hs, hs, by rw [eqv_self d (SeqAt.canLay_of_shaped hs)]; exact q H (Ex.refl H)⟩
end
/-! ### isinstance -/
section
variable {K : PySem.W.Frag} {σ : L2.St} {G : Hp} {ta tb : TE} {x c : V} {t u : Value} {b : Bool}
theorem TyOf.mono {H H' : Hp} (e : Ex H H') (h : TyOf K H x t) : TyOf K H' x t := by
  cases h with
  | non => exact .non
  | bl b => exact .bl b
  | int i => exact .int i
  | str s => exact .str s
  | flt f => exact .flt f
  | lst h => exact .lst (e _ _ h)
  | frz h => exact .frz (e _ _ h)
  | tup h => exact .tup (e _ _ h)
  | dK h => exact .dK (e _ _ h)
  | dT h => exact .dT (e _ _ h)
  | ins h => exact .ins (e _ _ h) (by assumption) (by assumption) (by assumption) (by assumption) (by assumption)
end

section
variable {K : PySem.W.Frag} {σ : L2.St} {G : Hp} {ta tb te : TE} {x c v : V} {t u : Value} {b : Bool}
theorem tyX_mono {H H' : Hp} (e : Ex H H') (h : TyX K H x t) : TyX K H' x t := by
  cases h with
  | base h => exact .base (TyOf.mono e h)
  | byt b => exact .byt b
  | set h => exact .set (e _ _ h)
  | kList h c => exact .kList h c
  | kTuple h c => exact .kTuple h c
  | kDict h c => exact .kDict h c
  | fTuple h => exact .fTuple (e _ _ h)
  | fDict h => exact .fDict (e _ _ h)
theorem ev_isi (ha : Ev ta σ G x) (hc : Ev tb σ G c) (hk : ClsV c u) (hx : TyX K G x t) (e : PySem.W.kitOne K t u = some b) : Ev (tCB (rIsi K) (tCons ta (tCons tb tNil))) σ G (.bl b) := fun H e1 Q q =>
  ha H e1 _ fun H1 e2 => hc H1 (e1.trans e2) _ fun H2 e3 => ⟨x, c, t, u, b, rfl, hk, tyX_mono ((e1.trans e2).trans e3) hx, e, q H2 (e2.trans e3)⟩
/-- [v] * k -/
theorem el_rep {k : Int} (ha : EvL ta σ G [v]) (hb : Ev tb σ G (.int k)) (h0 : -(2 ^ 63) ≤ k) (h1 : k ≤ 100000) : EvL (tOp rRep ta tb) σ G (List.replicate k.toNat v) := fun H e Q q =>
  ha H e _ fun p H1 hp e1 h => hb H1 (e.trans e1) _ fun H2 e2 => ⟨p, k, [v], rfl, rfl, e2 p _ h, h0, by omega, sz_of (by simp; omega), fun l hl => by
    have e3 : (List.replicate k.toNat [v]).flatten = List.replicate k.toNat v := by
      induction k.toNat with
      | zero => rfl
      | succ n ih => rw [List.replicate_succ, List.flatten_cons, ih]; rfl
    rw [e3]
    exact q l _ (fresh_back (e1.trans e2) hl) ((e1.trans e2).trans (Ex.new hl)) upd_same⟩
theorem el_litl {tA : TA} {vs : List V} (h : EvA tA σ G vs) (hl : vs.length ≤ 100000) : EvL (tLst tA) σ G vs := el_lst h hl
end

/-! ### a word between two statements -/
section
variable {K : PySem.W.Frag} {σ : L2.St} {G : Hp} {ta tb te : TE} {t : TT} {v : V} {D : Ends} {tu tw tz ts : TS}
theorem go_cut (M : L2.St → Hp → Prop) (h : Go ts { D with nx := Kn M } σ G) (k : ∀ σ' G', M σ' G' → Go tz D σ' G') : Go (tCut ts tz) D σ G := fun H e =>
  ⟨Kn M, h H e, fun σ' H' ⟨G', e', m⟩ => k σ' G' m H' e'⟩
theorem go_ifs {b : Bool} (h : EvT t σ G b) (h1 : b = true → Go tu D σ G) (h2 : b = false → Go tw D σ G) : Go (tIfS t tu tw) D σ G := fun H e =>
  h H e _ fun H1 e1 => by
    cases b with
    | true =>
      show tu D σ H1
      exact h1 rfl H1 (e.trans e1)
    | false =>
      show tw D σ H1
      exact h2 rfl H1 (e.trans e1)
theorem ev_ixLit {xs : List V} {i : Int} (ha : EvL ta σ G xs) (hb : Ev tb σ G (.int i)) (h : atI xs i = some v) : Ev (tOp (rIxL K) ta tb) σ G v :=
  ev_opL1 ha (fun _ e => hb.mono e) fun p H1 hp e => rv_ixL (sq_of hp) h
end

/-! ### what the top has left -/
structure DefAt (K : PySem.W.Frag) (mg : Str → Option Value) (x qual : Str) (st : Stmt) (ps : List Str) : Prop where
  ex : ∃ (f : Addr) (fd : FuncData), Fun K x qual st f fd ∧ mg x = some (.ref f) ∧ Binds K fd ps [] ∧ ∀ (s : Shared) (us : List Value), us.length = ps.length → BindsTo s fd ⟨us, []⟩ (ps.zip us)
theorem def_at {K : PySem.W.Frag} {mg : Str → Option Value} {h : Heap} {x qual : Str} {st : Stmt} {ps : List Str} {f : Addr} {oc : Value} {od an : Option Addr} {osl : Array (Option Value)} {kV doc pm cdv ct : Value} (X : K.In h) (G : h.Ns mainGlobals mg)
    (a : PySem.W.nsIn K mainGlobals x = some (some (.ref f))) (l : K.lookup f = some ⟨oc, od, .func (PySem.W.fnOf x qual (defArgs st) (defBody st) (defScope st) .none kV doc pm an cdv ct), osl⟩) (c : PySem.W.codeIn K cdv qual = true) (k : PySem.W.keepIn K (.ref f) = true)
    (b : ∀ (kV doc pm : Value) (an : Option Addr) (cdv ct : Value) (us : List Value), us.length = ps.length → bindArgs (PySem.W.fnOf x qual (defArgs st) (defBody st) (defScope st) .none kV doc pm an cdv ct) ⟨us, []⟩ = pure (ps.zip us)) : DefAt K mg x qual st ps :=
  ⟨f, _, fun_mk l c k, PySem.W.mg_of X G a, (fun_mk l c k).binds b, fun _ us hl => .of_eq (b _ _ _ _ _ _ us hl)⟩
theorem cal_of {P : Program} {w : World} {K : PySem.W.Frag} {mg : Str → Option Value} {base : Heap} {k : Nat} {x qual : Str} {st : Stmt} {ps : List Str} {sp : Sp} (d : DefAt K mg x qual st ps)
    (h : ∀ {f : Addr} {fd : FuncData}, Fun K x qual st f fd → FnOk P w K mg base (L2.CX P w) k f fd ps sp) : CalX P w K mg base k x sp := by
  obtain ⟨f, fd, F, hm, hb, _⟩ := d.ex
  exact ⟨f, fd, ps, h F, hm, F.kp, hb⟩
theorem law_of {P : Program} {w : World} {K : PySem.W.Frag} {mg : Str → Option Value} {k : Nat} {x p : Str} {st : Stmt} {sp : Sp} {fa : Addr} (d : DefAt K mg x x st [p]) (hfa : mg x = some (.ref fa))
    (h : ∀ (base : Heap) {f : Addr} {fd : FuncData}, Fun K x x st f fd → FnOk P w K mg base (L2.CX P w) k f fd [p] sp) :
    ∃ fd : FuncData, (∀ (s : Shared) (u : Value), BindsTo s fd ⟨[u], []⟩ [(p, u)]) ∧ ∀ base : Heap, K.In base → base.Ns mainGlobals mg → FnOk P w K mg base (L2.CX P w) k fa fd [p] sp := by
  obtain ⟨f, fd, F, hm, _, hb⟩ := d.ex
  have e := hm.symm.trans hfa
  cases e
  exact ⟨fd, fun s u => hb s [u] rfl, fun base _ _ => h base F⟩
def leastEs (P : Params) (a0 b0 a1 b1 a2 b2 a3 b3 a4 b4 a5 b5 a6 b6 a7 b7 a8 b8 : Tok) : List DictEntry := [{ hash := PyData.keyHash P "yes", key := .str "yes" a0, val := .int 0 b0 }, { hash := PyData.keyHash P "no", key := .str "no" a1, val := .int 0 b1 }, { hash := PyData.keyHash P "keep", key := .str "keep" a2, val := .int 1 b2 }, { hash := PyData.keyHash P "not", key := .str "not" a3, val := .int 1 b3 }, { hash := PyData.keyHash P "both", key := .str "both" a4, val := .int 2 b4 }, { hash := PyData.keyHash P "either", key := .str "either" a5, val := .int 2 b5 }, { hash := PyData.keyHash P "unlike", key := .str "unlike" a6, val := .int 2 b6 }, { hash := PyData.keyHash P "pick", key := .str "pick" a7, val := .int 3 b7 }, { hash := PyData.keyHash P "most", key := .str "most" a8, val := .int 3 b8 }]
theorem isStr_dec (a z : Str) (t : Tok) : (Value.str a t).isStr z = decide (z = a) := by
  show (a == z) = decide (z = a)
  rw [Bool.eq_iff_iff]
  simp only [decide_eq_true_eq, beq_iff_eq]
  exact ⟨fun h => h.symm, fun h => h.symm⟩
theorem least_at {K : PySem.W.Frag} {w : World} {d : Addr} {a0 b0 a1 b1 a2 b2 a3 b3 a4 b4 a5 b5 a6 b6 a7 b7 a8 b8 : Tok}
    (hl : K.lookup d = some { cls := .type "dict", data := .dict #[{ hash := PyData.keyHash w.params "yes", key := .str "yes" a0, val := .int 0 b0 }, { hash := PyData.keyHash w.params "no", key := .str "no" a1, val := .int 0 b1 }, { hash := PyData.keyHash w.params "keep", key := .str "keep" a2, val := .int 1 b2 }, { hash := PyData.keyHash w.params "not", key := .str "not" a3, val := .int 1 b3 }, { hash := PyData.keyHash w.params "both", key := .str "both" a4, val := .int 2 b4 }, { hash := PyData.keyHash w.params "either", key := .str "either" a5, val := .int 2 b5 }, { hash := PyData.keyHash w.params "unlike", key := .str "unlike" a6, val := .int 2 b6 }, { hash := PyData.keyHash w.params "pick", key := .str "pick" a7, val := .int 3 b7 }, { hash := PyData.keyHash w.params "most", key := .str "most" a8, val := .int 3 b8 }] 9 }) (low : (d == sysModules) = false) : LeastAt K w d := by
  have hn : ∀ z, PySem.W.nsIn K d z = (match List.find? (fun x : DictEntry => x.key.isStr z) (leastEs w.params a0 b0 a1 b1 a2 b2 a3 b3 a4 b4 a5 b5 a6 b6 a7 b7 a8 b8) with
    | some e => some (some e.val)
    | none => some none) := fun z => by
    unfold PySem.W.nsIn
    rw [show List.lookup d K = some _ from hl]
    show (match List.find? (fun x : DictEntry => x.key.isStr z) (leastEs w.params a0 b0 a1 b1 a2 b2 a3 b3 a4 b4 a5 b5 a6 b6 a7 b7 a8 b8) with | some e => some (some e.val) | none => if (leastEs w.params a0 b0 a1 b1 a2 b2 a3 b3 a4 b4 a5 b5 a6 b6 a7 b7 a8 b8).any (fun x => x.refKey) = true then none else some none) = _
    have hr : (leastEs w.params a0 b0 a1 b1 a2 b2 a3 b3 a4 b4 a5 b5 a6 b6 a7 b7 a8 b8).any (fun x => x.refKey) = false := rfl
    rw [hr]
    rfl
  refine ⟨⟨_, 9, hl, ?_, low⟩, fun z hz => ?_, fun z i hz => ?_⟩
  · exact ⟨⟨_, _, rfl, rfl⟩, ⟨_, _, rfl, rfl⟩, ⟨_, _, rfl, rfl⟩, ⟨_, _, rfl, rfl⟩, ⟨_, _, rfl, rfl⟩, ⟨_, _, rfl, rfl⟩, ⟨_, _, rfl, rfl⟩, ⟨_, _, rfl, rfl⟩, ⟨_, _, rfl, rfl⟩, trivial⟩
  · rw [hn z]
    unfold least at hz
    unfold leastEs
    simp only [List.find?_cons, isStr_dec]
    repeat' split at hz
    all_goals first | (cases hz; done) | (simp [*])
  · rw [hn z]
    unfold least at hz
    unfold leastEs
    simp only [List.find?_cons, isStr_dec]
    repeat' split at hz
    all_goals first | (cases hz; done) | (cases hz; subst_vars; exact ⟨_, rfl⟩)
end Sg

namespace Sg
open PySem L2 Evl

/-! ### the program, plain -/
def wantsM (z : Str) : Except Err (Int × Int) := match least z with
  | none => .error .kind
  | some i => .ok (i, if i = 2 then 9 else i)
/-- what a kind answers of its sources' values -/
def answerV (z : Str) (bs : List Bool) : Bool :=
  if z = "yes" ∨ z = "no" then decide (z = "yes")
  else if z = "keep" ∨ z = "not" then decide (bs.getD 0 false = decide (z = "keep"))
  else if z = "both" then bs.all id
  else if z = "either" then bs.any id
  else if z = "pick" then (if bs.getD 0 false = true then bs.getD 1 false else bs.getD 2 false)
  else if z = "most" then decide (2 ≤ ((bs.filter id).length : Int))
  else decide (((bs.filter id).length : Int) % 2 = 1)
def answerM (z : Str) (bs : List Bool) : Except Err Bool := match wantsM z with
  | .error e => .error e
  | .ok (lo, hi) => if lo ≤ bs.length ∧ (bs.length : Int) ≤ hi then .ok (answerV z bs) else .error .sources

theorem answerM_ok {z : Str} {bs : List Bool} {b : Bool} (h : answerM z bs = .ok b) : b = answerV z bs ∧ ∃ i, least z = some i ∧ i ≤ bs.length := by
  unfold answerM wantsM at h
  cases e : least z with
  | none => rw [e] at h; cases h
  | some i =>
    rw [e] at h
    by_cases c : i ≤ bs.length ∧ (bs.length : Int) ≤ (if i = 2 then 9 else i)
    · simp only [if_pos c] at h
      injection h with h
      exact ⟨h.symm, i, rfl, c.1⟩
    · simp only [if_neg c] at h
      cases h
theorem least_cases {z : Str} {i : Int} (h : least z = some i) : z = "yes" ∨ z = "no" ∨ z = "keep" ∨ z = "not" ∨ z = "both" ∨ z = "either" ∨ z = "unlike" ∨ z = "pick" ∨ z = "most" := by
  unfold least at h
  repeat' split at h
  all_goals first | (cases h; done) | (simp only [*, true_or, or_true])
theorem all_count (bs : List Bool) : (bs.all id) = decide ((bs.filter id).length = bs.length) := by
  induction bs with
  | nil => rfl
  | cons b r ih =>
    have hle := List.length_filter_le id r
    cases b
    · rw [List.all_cons]
      simp
      omega
    · rw [List.all_cons, ih]
      simp
theorem any_count (bs : List Bool) : (bs.any id) = decide (0 < (bs.filter id).length) := by
  induction bs with
  | nil => rfl
  | cons b r ih =>
    cases b
    · rw [List.any_cons, ih]; simp
    · rw [List.any_cons]; simp

def kinds9 : List Str := ["yes", "no", "keep", "not", "both", "either", "unlike", "pick", "most"]
def lo9 : List Int := [0, 0, 1, 1, 2, 2, 2, 3, 3]

def topS (i : Nat) : Stmt := PySem.Challenge.pw_signalgraph_k01_answers.main.body.getD i (.Pass ⟨0, 0, 0, 0⟩)
abbrev s_wants : Stmt := topS 7
abbrev s_answer : Stmt := topS 8
abbrev s_l_cell_at : Stmt := topS 10
abbrev s_l_answered : Stmt := topS 11
abbrev s_law : Stmt := topS 12
theorem sc_wants : FnScope ["kind", "least"] ["kind"] (defScope s_wants) := ⟨rfl, rfl, rfl, by decide +kernel, rfl, by decide +kernel, by decide +kernel⟩
theorem sc_answer : FnScope ["kind", "given", "bounds", "many", "one"] ["kind", "given"] (defScope s_answer) := ⟨rfl, rfl, rfl, by decide +kernel, rfl, by decide +kernel, by decide +kernel⟩
theorem sc_l_cell_at : FnScope ["_law_script", "_law_k"] ["_law_script", "_law_k"] (defScope s_l_cell_at) := ⟨rfl, rfl, rfl, by decide +kernel, rfl, by decide +kernel, by decide +kernel⟩
theorem sc_l_answered : FnScope ["_law_kind", "_law_given", "_law_many", "_law_one"] ["_law_kind", "_law_given"] (defScope s_l_answered) := ⟨rfl, rfl, rfl, by decide +kernel, rfl, by decide +kernel, by decide +kernel⟩
theorem sc_law : FnScope ["_law_script", "_law_way", "_law_kind", "_law_many", "_law_given", "_law_handed", "_law_found", "_law_k"] ["_law_script"] (defScope s_law) := ⟨rfl, rfl, rfl, by decide +kernel, rfl, by decide +kernel, by decide +kernel⟩
/-- what the top has left -/
structure Txt (K : PySem.W.Frag) (w : World) (mg : Str → Option Value) (A : Ads) : Prop where
  n_range : mg "range" = none
  n_len : mg "len" = none
  n_all : mg "all" = none
  n_any : mg "any" = none
  n_list : mg "list" = none
  n_bool : mg "bool" = none
  n_isinstance : mg "isinstance" = none
  n_ValueError : mg "ValueError" = none
  c_MANY_SOURCES : ∃ u, mg "MANY_SOURCES" = some u ∧ RelV (.int 9) u
  c_LEAST : mg "LEAST" = some (.ref A.LEAST)
  d_LEAST : LeastAt K w A.LEAST
  g_SignalError : mg "SignalError" = some (.ref A.SignalError)
  x_SignalError : PySem.W.excIn K A.SignalError [.type "ValueError", .type "Exception", .type "BaseException", .type "object"] "ValueError.__new__" = true
  k_SignalError : PySem.W.keepIn K (.ref A.SignalError) = true
  b_SignalError : PySem.W.subIn K (.ref A.SignalError) (.type "BaseException") = some true
  t_SignalError : PySem.W.typeIn K (.ref A.SignalError) = some (.type "type")
  g_NoKind : mg "NoKind" = some (.ref A.NoKind)
  x_NoKind : PySem.W.excIn K A.NoKind [.type "ValueError", .type "Exception", .type "BaseException", .type "object"] "ValueError.__new__" = true
  k_NoKind : PySem.W.keepIn K (.ref A.NoKind) = true
  b_NoKind : PySem.W.subIn K (.ref A.NoKind) (.type "BaseException") = some true
  t_NoKind : PySem.W.typeIn K (.ref A.NoKind) = some (.type "type")
  g_NoSources : mg "NoSources" = some (.ref A.NoSources)
  x_NoSources : PySem.W.excIn K A.NoSources [.type "ValueError", .type "Exception", .type "BaseException", .type "object"] "ValueError.__new__" = true
  k_NoSources : PySem.W.keepIn K (.ref A.NoSources) = true
  b_NoSources : PySem.W.subIn K (.ref A.NoSources) (.type "BaseException") = some true
  t_NoSources : PySem.W.typeIn K (.ref A.NoSources) = some (.type "type")

local macro_rules | `(tactic| walk_at "cl") => `(tactic| first | exact ClsV.ty _ | exact ClsV.own _)
local macro_rules | `(tactic| walk_at "ty") => `(tactic| first | exact .base (.int _) | exact .base (.bl _) | exact .base (.str _) | exact .base .non | exact .base (.lst (by with_reducible assumption)) | exact .base (.tup (by with_reducible assumption)))
local macro_rules | `(tactic| walk_at "sd") => `(tactic| first | with_reducible assumption | rfl | omega | decide)
local macro_rules | `(tactic| walk_at "rv") => `(tactic| first
  | with_reducible exact rv_I0
  | ((with_reducible refine' rv_I ?c); (case c => first | omega | exact ⟨by omega, by omega⟩ | exact Or.inr ⟨by omega, by omega⟩ | exact Or.inl ⟨by omega, by omega⟩ | walk_at "sd"))
  | with_reducible exact rv_eqI
  | with_reducible exact rv_eqS
  | with_reducible exact rv_eqB
  | with_reducible exact rv_neI
  | with_reducible exact rv_neS
  | with_reducible exact rv_neB
  | ((with_reducible refine' rv_ixL ?a ?b); (case a => walk_at "sd"); (case b => walk_at "sd"))
  | ((with_reducible refine' rv_ixT ?a ?b); (case a => walk_at "sd"); (case b => walk_at "sd")))
local macro_rules | `(tactic| walk_at "ev") => `(tactic| first
  | with_reducible exact ev_c
  | ((with_reducible refine' ev_var ?a); (case a => rfl))
  | with_reducible assumption
  | ((with_reducible refine' ev_op ?a ?b ?c); (case a => walk_at "ev"); (case b => walk_at "ev"); (case c => walk_at "rv"))
  | ((with_reducible refine' ev_un ?a ru_neg); (case a => walk_at "ev"))
  | ((with_reducible refine' ev_callS ?a ?b); (case a => walk_at "ea"); (case b => walk_at "sv"))
  | ((with_reducible refine' ev_chI ?a ?b ?c); (case a => walk_at "ev"); (case b => walk_at "ev"); (case c => walk_at "ev"))
  | ((with_reducible refine' ev_len ?a ?b); (case a => walk_at "ev"); (case b => walk_at "sd"))
  | ((with_reducible refine' ev_lenT ?a ?b); (case a => walk_at "ev"); (case b => walk_at "sd"))
  | ((with_reducible refine' ev_isi ?a ?b ?c ?d ?e); (case a => walk_at "ev"); (case b => walk_at "ev"); (case c => walk_at "cl"); (case d => walk_at "ty"); (case e => exact kit_ty (by decide +kernel)))
  | ((with_reducible refine' ev_andV ?a (fun _ => ?b)); (case a => walk_at "ev"); (case b => walk_at "ev"))
  | ((with_reducible refine' ev_orV ?a (fun _ => ?b)); (case a => walk_at "ev"); (case b => walk_at "ev"))
  | ((with_reducible refine' ev_notV ?a); (case a => walk_at "ev"))
  | ((with_reducible refine' ev_all ?a ?b); (case a => walk_at "ev"); (case b => walk_at "sd"))
  | ((with_reducible refine' ev_any ?a ?b); (case a => walk_at "ev"); (case b => walk_at "sd")))
local macro_rules | `(tactic| walk_at "et") => `(tactic| first
  | ((with_reducible refine' et_test ?a); (case a => walk_at "ev"))
  | ((with_reducible refine' et_B ?a); (case a => walk_at "ev"))
  | ((with_reducible refine' et_not ?a); (case a => walk_at "et"))
  | ((with_reducible refine' et_and ?a (fun _ => ?b)); (case a => walk_at "et"); (case b => walk_at "et"))
  | ((with_reducible refine' et_or ?a (fun _ => ?b)); (case a => walk_at "et"); (case b => walk_at "et"))
  | with_reducible assumption)
local macro_rules | `(tactic| walk_at "ea") => `(tactic| first
  | with_reducible exact ea_nil
  | ((with_reducible refine' ea_cons ?a ?b); (case a => walk_at "ev"); (case b => walk_at "ea")))

section
variable {P : Program} {w : World} {K : PySem.W.Frag} {mg : Str → Option Value} {base : Heap} {A : Ads}
def cell (ns : List Int) (k : Int) : Int := ns.getD k.toNat 0
def sp_l_cell_at (K : PySem.W.Frag) (A : Ads) : Sp := fun vs H Q E => ∃ a ns k, vs = [.ref a, .int k] ∧ SqL K H a (ns.map V.int) ∧ 0 ≤ k ∧ RetV (.int (cell ns k)) H Q
theorem sv_cell_at {K : PySem.W.Frag} {A : Ads} {G : Hp} {a : Addr} {ns : List Int} {k : Int} (h : SqL K G a (ns.map V.int)) (h0 : 0 ≤ k) : SpV (sp_l_cell_at K A) [.ref a, .int k] G (.int (cell ns k)) := fun _ e _ q _ =>
  ⟨a, ns, k, rfl, ex_l e h, h0, q⟩
theorem ok_l_cell_at {f : Addr} {fd : FuncData} (F : Fun K "_law_cell_at" "_law_cell_at" s_l_cell_at f fd) (T : Txt K w mg A)  : FnOk P w K mg base (L2.CX P w) 1 f fd ["_law_script", "_law_k"] (sp_l_cell_at K A) := by
  refine F.okX sc_l_cell_at (fun vs H Q E h => ?_) (fun cdv A_ outer s H vs Q E hr h => ?_)
  · obtain ⟨a, ns, k, rfl, _⟩ := h; rfl
  · obtain ⟨a, ns, k, rfl, hS, h0, q⟩ := h
    refine ⟨_, (pss_cons (ps_if (pt_cmpR op_lt (pv 1) (pe_callB call_lenS (by rfl) T.n_len PySem.boot_len (pa_cons (pv 0) pa_nil)) (nomark _)) (pss_cons (ps_ret (pe_ix ix_list (pv 0) (pv 1) (fun _ _ => rfl))) pss_nil) pss_nil) (pss_cons (ps_ret pe_int) pss_nil)), ?_⟩
    dsimp only [cxOf, Cx.blk]
    refine Go.start (σ := [some (.ref a), some (.int k)]) ?_
    have hl : (ns.map V.int).length = ns.length := List.length_map _
    refine go_when (b := decide (k < (ns.length : Int))) (et_test (ev_is (ev_op (by walk_at "ev") (ev_len (ev_var rfl) hS) rv_I0) (by rw [hl]))) (fun h => ?_) (fun h => ?_)
    · have h1 : k < ns.length := of_decide_eq_true h
      exact go_ret (ev_op (ev_var rfl) (ev_var rfl) (rv_ixL hS (at_map V.int ns 0 h0 h1))) fun H1 e1 => q H1 e1
    · have h1 : ¬ k < ns.length := of_decide_eq_false h
      refine go_ret ev_c fun H1 e1 => ?_
      have e2 : cell ns k = 0 := by
        unfold cell
        rw [List.getD_eq_getElem?_getD, List.getElem?_eq_none (by omega)]; rfl
      have q2 := q H1 e1
      rw [e2] at q2
      exact q2

end
local macro_rules | `(tactic| walk_at "sv") => `(tactic| exact sv_cell_at (by walk_at "sd") (by walk_at "sd"))

section
variable {P : Program} {w : World} {K : PySem.W.Frag} {mg : Str → Option Value} {base : Heap} {A : Ads}
def sp_wants (K : PySem.W.Frag) (A : Ads) : Sp := fun vs H Q E => ∃ z, vs = [.str z] ∧ Out A H Q E (RT1 K fun b : Int × Int => [.int b.1, .int b.2]) (wantsM z)
theorem ok_wants {f : Addr} {fd : FuncData} (F : Fun K "wants" "wants" s_wants f fd) (T : Txt K w mg A)  : FnOk P w K mg base (L2.CX P w) 1 f fd ["kind"] (sp_wants K A) := by
  refine F.okX sc_wants (fun vs H Q E h => ?_) (fun cdv A_ outer s H vs Q E hr h => ?_)
  · obtain ⟨z, rfl, _⟩ := h; rfl
  · obtain ⟨z, rfl, o⟩ := h
    refine ⟨_, (pss_cons (ps_if (pt_cmpR (op_notIn_least T.d_LEAST) (pv 0) (pe_glob (v := .ref A.LEAST) rfl T.c_LEAST rfl) rfl) (pss_cons (ps_raise rfl (takes_of rfl rfl rfl rfl) (pmk_own PySem.F.excBase_ValueError T.x_NoKind T.g_NoKind T.k_NoKind (raises_own T.b_NoKind T.t_NoKind) rfl)) pss_nil) pss_nil) (pss_cons (ps_set (i := 1) sc_wants.nd rfl (.inl rfl) (pe_ix (ix_least T.d_LEAST) (pe_glob (v := .ref A.LEAST) rfl T.c_LEAST rfl) (pv 0) (fun _ _ => rfl))) (pss_cons (ps_if (pt_cmpR op_eq (pv 1) pe_int (nomark _)) (pss_cons (ps_ret (pe_tup (pa_cons (pv 1) (pa_cons (pe_gv rfl T.c_MANY_SOURCES) pa_nil)))) pss_nil) pss_nil) (pss_cons (ps_ret (pe_tup (pa_cons (pv 1) (pa_cons (pv 1) pa_nil)))) pss_nil)))), ?_⟩
    dsimp only [cxOf, Cx.blk]
    refine Go.start (σ := [some (.str z), none]) ?_
    refine go_when (b := !(least z).isSome) (et_test (ev_op (ev_var rfl) ev_c rv_notLeast)) (fun h => ?_) (fun h => ?_)
    · cases e : least z with
      | none => exact go_raise fun _ _ H1 e1 => o.err .kind (by unfold wantsM; rw [e]) e1
      | some i => rw [e] at h; cases h
    · cases e : least z with
      | none => rw [e] at h; cases h
      | some i =>
        refine go_asg (ev_op ev_c (ev_var rfl) (rv_itLeast e)) ?_
        refine go_when (et_test (by walk_at "ev")) (fun h => ?_) (fun h => ?_)
        · have h2 : i = 2 := of_decide_eq_true h
          refine go_retU (eu_tup (by walk_at "ea") (by show 2 ≤ 100000; decide)) fun p H1 hp e1 h1 => ?_
          exact o.ok (2, 9) (by unfold wantsM; rw [e, h2]; rfl) e1 ⟨p, rfl, by rw [h2] at h1; exact st_of h1⟩
        · have h2 : ¬ i = 2 := of_decide_eq_false h
          refine go_retU (eu_tup (by walk_at "ea") (by show 2 ≤ 100000; decide)) fun p H1 hp e1 h1 => ?_
          exact o.ok (i, i) (by unfold wantsM; rw [e]; simp [h2]) e1 ⟨p, rfl, st_of h1⟩

end

section
variable {P : Program} {w : World} {K : PySem.W.Frag} {mg : Str → Option Value} {base : Heap} {A : Ads}
def sp_answer (K : PySem.W.Frag) (A : Ads) : Sp := fun vs H Q E => ∃ z a bs, vs = [.str z, .ref a] ∧ SqL K H a (bs.map V.bl) ∧ bs.length ≤ 40000 ∧ Out A H Q E (RV1 V.bl) (answerM z bs)
theorem least_two {z : Str} (h : least z = some 2) : z = "both" ∨ z = "either" ∨ z = "unlike" := by
  unfold least at h
  repeat' split at h
  all_goals first | (left; assumption) | (right; left; assumption) | (right; right; assumption) | (cases h)
theorem ok_answer {f : Addr} {fd : FuncData} (F : Fun K "answer" "answer" s_answer f fd) (T : Txt K w mg A) (c_wants : CalX P w K mg base 1 "wants" (sp_wants K A)) : FnOk P w K mg base (L2.CX P w) 2 f fd ["kind", "given"] (sp_answer K A) := by
  refine F.okX sc_answer (fun vs H Q E h => ?_) (fun cdv A_ outer s H vs Q E hr h => ?_)
  · obtain ⟨z, a, bs, rfl, _⟩ := h; rfl
  · obtain ⟨z, a, bs, rfl, hS, hz, o⟩ := h
    refine ⟨_, (pss_cons (ps_set (i := 2) sc_answer.nd rfl (.inl rfl) (pe_cx c_wants hr (by decide) rfl (takes_of rfl rfl rfl rfl) (pa_cons (pv 0) pa_nil))) (pss_cons (ps_if (pt_not (pt_chain op_le op_le (pe_ix ix_tup (pv 2) pe_int (fun _ _ => rfl)) (pe_callB call_lenS (by rfl) T.n_len PySem.boot_len (pa_cons (pv 1) pa_nil)) (pe_ix ix_tup (pv 2) pe_int (fun _ _ => rfl)))) (pss_cons (ps_raise rfl (takes_of rfl rfl rfl rfl) (pmk_own PySem.F.excBase_ValueError T.x_NoSources T.g_NoSources T.k_NoSources (raises_own T.b_NoSources T.t_NoSources) rfl)) pss_nil) pss_nil) (pss_cons (ps_if (PW.pt (pw_or (pt_cmpR op_eq (pv 0) pe_str (nomark _)) (pw_or1 (pt_cmpR op_eq (pv 0) pe_str (nomark _))))) (pss_cons (ps_ret (pe_cmpR op_eq (pv 0) pe_str (nomark _))) pss_nil) pss_nil) (pss_cons (ps_if (PW.pt (pw_or (pt_cmpR op_eq (pv 0) pe_str (nomark _)) (pw_or1 (pt_cmpR op_eq (pv 0) pe_str (nomark _))))) (pss_cons (ps_ret (pe_cmpR op_eq (pe_ix ix_list (pv 1) pe_int (fun _ _ => rfl)) (pe_cmpR op_eq (pv 0) pe_str (nomark _)) (nomark _))) pss_nil) pss_nil) (pss_cons (ps_if (pt_cmpR op_eq (pv 0) pe_str (nomark _)) (pss_cons (ps_ret (pe_callB (cr_all rfl) (by rfl) T.n_all (by decide +kernel) (pa_cons (pv 1) pa_nil))) pss_nil) pss_nil) (pss_cons (ps_if (pt_cmpR op_eq (pv 0) pe_str (nomark _)) (pss_cons (ps_ret (pe_callB (cr_any rfl) (by rfl) T.n_any (by decide +kernel) (pa_cons (pv 1) pa_nil))) pss_nil) pss_nil) (pss_cons (ps_if (pt_cmpR op_eq (pv 0) pe_str (nomark _)) (pss_cons (ps_ret (pe_ifExp (pt_val (pe_ix ix_list (pv 1) pe_int (fun _ _ => rfl))) (pe_ix ix_list (pv 1) pe_int (fun _ _ => rfl)) (pe_ix ix_list (pv 1) pe_int (fun _ _ => rfl)))) pss_nil) pss_nil) (pss_cons (ps_set (i := 3) sc_answer.nd rfl (.inl rfl) (pe_callB call_lenS (by rfl) T.n_len PySem.boot_len (pa_cons (pe_lc (own := [("one", 4)]) (g := gName 4) rfl sc_answer.nd (pi_list (pv 1)) (blkOk_by (own := [("one", 4)]) (N := ["kind", "given", "bounds", "many", "one"]) (sc := defScope s_answer) (by decide +kernel)) (fun _ _ _ _ _ => pg_name (i := 4) sc_answer.nd rfl (Or.inl rfl)) (fun _ _ _ _ _ => (pts_one (pt_val (pv 4)))) (fun _ _ _ _ _ => (pv 4))) pa_nil))) (pss_cons (ps_if (pt_cmpR op_eq (pv 0) pe_str (nomark _)) (pss_cons (ps_ret (pe_cmpR op_ge (pv 3) pe_int (nomark _))) pss_nil) pss_nil) (pss_cons (ps_ret (pe_cmpR op_eq (pe_op op_mod (pv 3) pe_int) pe_int (nomark _))) pss_nil)))))))))), ?_⟩
    dsimp only [cxOf, Cx.blk]
    refine Go.start (σ := [some (.str z), some (.ref a), none, none, none]) ?_
    cases hw : wantsM z with
    | error x =>
      refine go_asgF (ef_call (by walk_at "ea") fun H1 e1 Q1 => ⟨z, rfl, out_err hw fun H2 e2 => ?_⟩)
      exact o.err x (by unfold answerM; rw [hw]) (e1.trans e2)
    | ok b =>
      obtain ⟨lo, hi⟩ := b
      refine go_asgP (ep_call (by walk_at "ea") (spg_out (r := wantsM z) (R := RT1 K fun b : Int × Int => [.int b.1, .int b.2]) (A := A) (fun H1 e1 Q1 E1 o1 => ⟨z, rfl, o1⟩) hw)) (fun v G1 e1 hv => ?_)
      obtain ⟨H0, _, _, p, rfl, hp⟩ := hv
      have hp : SqT K G1 p [.int lo, .int hi] := hp
      have hS1 := ex_l e1 hS
      have hl : (bs.map V.bl).length = bs.length := List.length_map _
      have i0 : atI [V.int lo, V.int hi] 0 = some (.int lo) := rfl
      have i1 : atI [V.int lo, V.int hi] 1 = some (.int hi) := rfl
      have el : Ev (tCB (rLenS K) (tCons (tVar 1) tNil)) [some (.str z), some (.ref a), some (.ref p), none, none] G1 (.int (bs.length : Int)) := hl ▸ ev_len (ev_var rfl) hS1
      refine go_when (b := !(decide (lo ≤ (bs.length : Int)) && decide ((bs.length : Int) ≤ hi))) (et_not (et_test (ev_chI (by walk_at "ev") el (by walk_at "ev")))) (fun h => ?_) (fun h => ?_)
      · have h2 : ¬ (lo ≤ (bs.length : Int) ∧ (bs.length : Int) ≤ hi) := fun ⟨p, q⟩ => by simp [p, q] at h
        exact go_raise fun _ _ H1 e2 => o.err .sources (by unfold answerM; rw [hw]; simp [h2]) (e1.trans e2)
      · have h2 : lo ≤ (bs.length : Int) ∧ (bs.length : Int) ≤ hi := by simpa using h
        have hm : answerM z bs = .ok (answerV z bs) := by unfold answerM; rw [hw]; simp [h2]
        have fin : ∀ b : Bool, answerV z bs = b → ∀ H1, Ex G1 H1 → Q (.bl b) H1 := fun b hb H1 e2 => o.ok _ hm (e1.trans e2) (by rw [hb]; rfl)
        -- how many
        have hlo : ∀ i, least z = some i → lo = i ∧ hi = if i = 2 then 9 else i := fun i hi' => by
          unfold wantsM at hw; rw [hi'] at hw; injection hw with hw; injection hw with h3 h4; exact ⟨h3.symm, h4.symm⟩
        have bit : ∀ k : Nat, (k : Int) < bs.length → atI (bs.map V.bl) (k : Int) = some (.bl (bs.getD k false)) := fun k hk => by
          have := at_map V.bl bs false (k := (k : Int)) (by omega) hk
          simpa using this
        refine go_when (by walk_at "et") (fun h => ?_) (fun h => ?_)
        · have h3 : z = "yes" ∨ z = "no" := by simpa using h
          exact go_ret (by walk_at "ev") fun H1 e2 => fin _ (by unfold answerV; rw [if_pos h3]) H1 e2
        have n1 : ¬ (z = "yes" ∨ z = "no") := by simpa using h
        refine go_when (by walk_at "et") (fun h => ?_) (fun h => ?_)
        · have h3 : z = "keep" ∨ z = "not" := by simpa using h
          have h4 : least z = some 1 := by rcases h3 with rfl | rfl <;> rfl
          have b0 := bit 0 (by have := (hlo 1 h4).1; omega)
          have b0' : atI (bs.map V.bl) 0 = some (.bl (bs.getD 0 false)) := b0
          exact go_ret (by walk_at "ev") fun H1 e2 => fin _ (by unfold answerV; rw [if_neg n1, if_pos h3]) H1 e2
        have n2 : ¬ (z = "keep" ∨ z = "not") := by simpa using h
        refine go_when (by walk_at "et") (fun h => ?_) (fun h => ?_)
        · have h3 : z = "both" := by simpa using h
          exact go_ret (by walk_at "ev") fun H1 e2 => fin _ (by unfold answerV; rw [if_neg n1, if_neg n2, if_pos h3]) H1 e2
        have n3 : ¬ z = "both" := by simpa using h
        refine go_when (by walk_at "et") (fun h => ?_) (fun h => ?_)
        · have h3 : z = "either" := by simpa using h
          exact go_ret (by walk_at "ev") fun H1 e2 => fin _ (by unfold answerV; rw [if_neg n1, if_neg n2, if_neg n3, if_pos h3]) H1 e2
        have n4 : ¬ z = "either" := by simpa using h
        refine go_when (by walk_at "et") (fun h => ?_) (fun h => ?_)
        · have h3 : z = "pick" := by simpa using h
          have h4 : least z = some 3 := by rw [h3]; rfl
          have l3 : (3 : Int) ≤ bs.length := by have := (hlo 3 h4).1; omega
          have b0 : atI (bs.map V.bl) 0 = some (.bl (bs.getD 0 false)) := bit 0 (by omega)
          have b1 : atI (bs.map V.bl) 1 = some (.bl (bs.getD 1 false)) := bit 1 (by omega)
          have b2 : atI (bs.map V.bl) 2 = some (.bl (bs.getD 2 false)) := bit 2 (by omega)
          refine go_ret (v := .bl (if bs.getD 0 false = true then bs.getD 1 false else bs.getD 2 false)) (ev_if (by walk_at "et") (fun h => ?_) (fun h => ?_)) fun H1 e2 => fin _ (by unfold answerV; rw [if_neg n1, if_neg n2, if_neg n3, if_neg n4, if_pos h3]) H1 e2
          · rw [if_pos h]; walk_at "ev"
          · rw [if_neg (by rw [h]; decide)]; walk_at "ev"
        have n5 : ¬ z = "pick" := by simpa using h
        have ef : Ev (tCB (rLenS K) (tCons (tLc (iList K (tVar 1)) (gName 4) (tB (tVar 4)) (tVar 4) [4]) tNil)) [some (.str z), some (.ref a), some (.ref p), none, none] G1 (.int ((bs.filter id).length : Int)) := by
          have q := ev_lenN (K := K) (el_lcF (K := K) (σ := [some (.str z), some (.ref a), some (.ref p), none, none]) (G := G1) (tl := tVar 1) (t := tB (tVar 4)) (te := tVar 4) (j := 4) (vs := [4]) bs V.bl id V.bl (ev_var rfl) hS1 hz (fun _ => rfl)
            (fun x _ => et_B (ev_var rfl)) (fun x _ _ => ev_var rfl))
          rw [List.length_map] at q
          exact q
        refine go_asg ef ?_
        refine go_when (by walk_at "et") (fun h => ?_) (fun h => ?_)
        · have h3 : z = "most" := by simpa using h
          exact go_ret (by walk_at "ev") fun H1 e2 => fin _ (by unfold answerV; rw [if_neg n1, if_neg n2, if_neg n3, if_neg n4, if_neg n5, if_pos h3]) H1 e2
        have n6 : ¬ z = "most" := by simpa using h
        exact go_ret (by walk_at "ev") fun H1 e2 => fin _ (by unfold answerV; rw [if_neg n1, if_neg n2, if_neg n3, if_neg n4, if_neg n5, if_neg n6]) H1 e2

end

section
variable {P : Program} {w : World} {K : PySem.W.Frag} {mg : Str → Option Value} {base : Heap} {A : Ads}
def sp_l_answered (K : PySem.W.Frag) (A : Ads) : Sp := fun vs H Q E => ∃ z a bs b, vs = [.str z, .ref a] ∧ SqL K H a (bs.map V.bl) ∧ bs.length ≤ 40000 ∧ answerM z bs = .ok b ∧ RetV (.bl b) H Q
theorem sv_answered {K : PySem.W.Frag} {A : Ads} {G : Hp} {z : Str} {a : Addr} {bs : List Bool} {b : Bool} (h : SqL K G a (bs.map V.bl)) (h0 : bs.length ≤ 40000) (h1 : answerM z bs = .ok b) : SpV (sp_l_answered K A) [.str z, .ref a] G (.bl b) := fun _ e _ q _ =>
  ⟨z, a, bs, b, rfl, ex_l e h, h0, h1, q⟩
theorem ok_l_answered {f : Addr} {fd : FuncData} (F : Fun K "_law_answered" "_law_answered" s_l_answered f fd) (T : Txt K w mg A)  : FnOk P w K mg base (L2.CX P w) 1 f fd ["_law_kind", "_law_given"] (sp_l_answered K A) := by
  refine F.okX sc_l_answered (fun vs H Q E h => ?_) (fun cdv A_ outer s H vs Q E hr h => ?_)
  · obtain ⟨z, a, bs, b, rfl, _⟩ := h; rfl
  · obtain ⟨z, a, bs, b, rfl, hS, hz, hb, q⟩ := h
    refine ⟨_, (pss_cons (ps_set (i := 2) sc_l_answered.nd rfl (.inl rfl) (pe_callB call_lenS (by rfl) T.n_len PySem.boot_len (pa_cons (pe_lc (own := [("_law_one", 3)]) (g := gName 3) rfl sc_l_answered.nd (pi_list (pv 1)) (blkOk_by (own := [("_law_one", 3)]) (N := ["_law_kind", "_law_given", "_law_many", "_law_one"]) (sc := defScope s_l_answered) (by decide +kernel)) (fun _ _ _ _ _ => pg_name (i := 3) sc_l_answered.nd rfl (Or.inl rfl)) (fun _ _ _ _ _ => (pts_one (pt_val (pv 3)))) (fun _ _ _ _ _ => (pv 3))) pa_nil))) (pss_cons (ps_if (PW.pt (pw_or (pt_cmpR op_eq (pv 0) pe_str (nomark _)) (pw_or1 (pt_cmpR op_eq (pv 0) pe_str (nomark _))))) (pss_cons (ps_ret (pe_cmpR op_eq (pv 0) pe_str (nomark _))) pss_nil) pss_nil) (pss_cons (ps_if (pt_cmpR op_eq (pv 0) pe_str (nomark _)) (pss_cons (ps_ret (pe_ix ix_list (pv 1) pe_int (fun _ _ => rfl))) pss_nil) pss_nil) (pss_cons (ps_if (pt_cmpR op_eq (pv 0) pe_str (nomark _)) (pss_cons (ps_ret (pe_not (pe_ix ix_list (pv 1) pe_int (fun _ _ => rfl)))) pss_nil) pss_nil) (pss_cons (ps_if (pt_cmpR op_eq (pv 0) pe_str (nomark _)) (pss_cons (ps_ret (pe_cmpR op_eq (pv 2) (pe_callB call_lenS (by rfl) T.n_len PySem.boot_len (pa_cons (pv 1) pa_nil)) (nomark _))) pss_nil) pss_nil) (pss_cons (ps_if (pt_cmpR op_eq (pv 0) pe_str (nomark _)) (pss_cons (ps_ret (pe_cmpR op_gt (pv 2) pe_int (nomark _))) pss_nil) pss_nil) (pss_cons (ps_if (pt_cmpR op_eq (pv 0) pe_str (nomark _)) (pss_cons (ps_ret (pe_cmpR op_eq (pe_op op_mod (pv 2) pe_int) pe_int (nomark _))) pss_nil) pss_nil) (pss_cons (ps_if (pt_cmpR op_eq (pv 0) pe_str (nomark _)) (pss_cons (ps_ret (pe_cmpR op_gt (pv 2) pe_int (nomark _))) pss_nil) pss_nil) (pss_cons (ps_if (pt_val (pe_ix ix_list (pv 1) pe_int (fun _ _ => rfl))) (pss_cons (ps_ret (pe_ix ix_list (pv 1) pe_int (fun _ _ => rfl))) pss_nil) pss_nil) (pss_cons (ps_ret (pe_ix ix_list (pv 1) pe_int (fun _ _ => rfl))) pss_nil)))))))))), ?_⟩
    dsimp only [cxOf, Cx.blk]
    obtain ⟨hv, i, hi, hil⟩ := answerM_ok hb
    refine Go.start (σ := [some (.str z), some (.ref a), none, none]) ?_
    have hl : (bs.map V.bl).length = bs.length := List.length_map _
    have ef : Ev (tCB (rLenS K) (tCons (tLc (iList K (tVar 1)) (gName 3) (tB (tVar 3)) (tVar 3) [3]) tNil)) [some (.str z), some (.ref a), none, none] H (.int ((bs.filter id).length : Int)) := by
      have q := ev_lenN (K := K) (el_lcF (K := K) (σ := [some (.str z), some (.ref a), none, none]) (G := H) (tl := tVar 1) (t := tB (tVar 3)) (te := tVar 3) (j := 3) (vs := [3]) bs V.bl id V.bl (ev_var rfl) hS hz (fun _ => rfl)
        (fun x _ => et_B (ev_var rfl)) (fun x _ _ => ev_var rfl))
      rw [List.length_map] at q
      exact q
    refine go_asg ef ?_
    have fin : ∀ c : Bool, answerV z bs = c → ∀ H1, Ex H H1 → Q (.bl c) H1 := fun c hc H1 e2 => by rw [← hc, ← hv]; exact q H1 e2
    have bit : ∀ k : Nat, (k : Int) < bs.length → atI (bs.map V.bl) (k : Int) = some (.bl (bs.getD k false)) := fun k hk => by
      have := at_map V.bl bs false (k := (k : Int)) (by omega) hk
      simpa using this
    refine go_when (by walk_at "et") (fun h => ?_) (fun h => ?_)
    · have h3 : z = "yes" ∨ z = "no" := by simpa using h
      exact go_ret (by walk_at "ev") fun H1 e2 => fin _ (by unfold answerV; rw [if_pos h3]) H1 e2
    have n1 : ¬ (z = "yes" ∨ z = "no") := by simpa using h
    refine go_when (by walk_at "et") (fun h => ?_) (fun h => ?_)
    · have h3 : z = "keep" := by simpa using h
      subst h3
      have b0 : atI (bs.map V.bl) 0 = some (.bl (bs.getD 0 false)) := bit 0 (by cases hi; omega)
      exact go_ret (by walk_at "ev") fun H1 e2 => fin _ (by unfold answerV; rw [if_neg n1, if_pos (Or.inl rfl)]; simp) H1 e2
    have n2 : ¬ z = "keep" := by simpa using h
    refine go_when (by walk_at "et") (fun h => ?_) (fun h => ?_)
    · have h3 : z = "not" := by simpa using h
      subst h3
      have b0 : atI (bs.map V.bl) 0 = some (.bl (bs.getD 0 false)) := bit 0 (by cases hi; omega)
      exact go_ret (by walk_at "ev") fun H1 e2 => fin _ (by unfold answerV; rw [if_neg n1, if_pos (Or.inr rfl)]; cases bs.getD 0 false <;> rfl) H1 e2
    have n3 : ¬ z = "not" := by simpa using h
    have n23 : ¬ (z = "keep" ∨ z = "not") := fun h => h.elim n2 n3
    refine go_when (by walk_at "et") (fun h => ?_) (fun h => ?_)
    · have h3 : z = "both" := by simpa using h
      refine go_ret (by walk_at "ev") fun H1 e2 => fin _ (by unfold answerV; rw [if_neg n1, if_neg n23, if_pos h3, all_count]; exact decide_eq_decide.mpr (by omega)) H1 e2
    have n4 : ¬ z = "both" := by simpa using h
    refine go_when (by walk_at "et") (fun h => ?_) (fun h => ?_)
    · have h3 : z = "either" := by simpa using h
      refine go_ret (by walk_at "ev") fun H1 e2 => fin _ (by unfold answerV; rw [if_neg n1, if_neg n23, if_neg n4, if_pos h3, any_count]; exact decide_eq_decide.mpr (by omega)) H1 e2
    have n5 : ¬ z = "either" := by simpa using h
    refine go_when (by walk_at "et") (fun h => ?_) (fun h => ?_)
    · have h3 : z = "unlike" := by simpa using h
      subst h3
      refine go_ret (by walk_at "ev") fun H1 e2 => fin _ (by unfold answerV; rw [if_neg n1, if_neg n23, if_neg n4, if_neg n5, if_neg (by decide), if_neg (by decide)]) H1 e2
    have n6 : ¬ z = "unlike" := by simpa using h
    refine go_when (by walk_at "et") (fun h => ?_) (fun h => ?_)
    · have h3 : z = "most" := by simpa using h
      subst h3
      refine go_ret (by walk_at "ev") fun H1 e2 => fin _ (by unfold answerV; rw [if_neg n1, if_neg n23, if_neg n4, if_neg n5, if_neg (by decide), if_pos rfl]; apply decide_eq_decide.mpr; omega) H1 e2
    have n7 : ¬ z = "most" := by simpa using h
    have h3 : z = "pick" := by
      rcases least_cases hi with h | h | h | h | h | h | h | h | h
      · exact absurd (Or.inl h) n1
      · exact absurd (Or.inr h) n1
      · exact absurd h n2
      · exact absurd h n3
      · exact absurd h n4
      · exact absurd h n5
      · exact absurd h n6
      · exact h
      · exact absurd h n7
    subst h3
    have l3 : (3 : Int) ≤ bs.length := by cases hi; omega
    have b0 : atI (bs.map V.bl) 0 = some (.bl (bs.getD 0 false)) := bit 0 (by omega)
    have b1 : atI (bs.map V.bl) 1 = some (.bl (bs.getD 1 false)) := bit 1 (by omega)
    have b2 : atI (bs.map V.bl) 2 = some (.bl (bs.getD 2 false)) := bit 2 (by omega)
    refine go_when (by walk_at "et") (fun h => ?_) (fun h => ?_)
    · exact go_ret (by walk_at "ev") fun H1 e2 => fin _ (by unfold answerV; rw [if_neg n1, if_neg n23, if_neg n4, if_neg n5, if_pos rfl, if_pos h]) H1 e2
    · exact go_ret (by walk_at "ev") fun H1 e2 => fin _ (by unfold answerV; rw [if_neg n1, if_neg n23, if_neg n4, if_neg n5, if_pos rfl, if_neg (by rw [h]; decide)]) H1 e2

end
local macro_rules | `(tactic| walk_at "sv") => `(tactic| exact sv_answered (by walk_at "sd") (by walk_at "sd") (by walk_at "sd"))

section
variable {P : Program} {w : World} {K : PySem.W.Frag} {mg : Str → Option Value} {base : Heap} {A : Ads}
def sp_law (K : PySem.W.Frag) (A : Ads) : Sp := fun vs H Q E => ∃ (a : Addr) (ns : List Int), vs = [.ref a] ∧ SqL K H a (ns.map V.int) ∧ ns.length ≤ 63 ∧ ∀ H', Q (.bl true) H'
theorem least9 {w : Int} (h0 : 0 ≤ w) (h1 : w < 9) : least (kinds9.getD w.toNat "") = some (lo9.getD w.toNat 0) := by
  have h : w = 0 ∨ w = 1 ∨ w = 2 ∨ w = 3 ∨ w = 4 ∨ w = 5 ∨ w = 6 ∨ w = 7 ∨ w = 8 := by omega
  rcases h with rfl | rfl | rfl | rfl | rfl | rfl | rfl | rfl | rfl <;> rfl
theorem lo9_in {w : Int} (h0 : 0 ≤ w) (h1 : w < 9) : 0 ≤ lo9.getD w.toNat 0 ∧ lo9.getD w.toNat 0 ≤ 3 := by
  have h : w = 0 ∨ w = 1 ∨ w = 2 ∨ w = 3 ∨ w = 4 ∨ w = 5 ∨ w = 6 ∨ w = 7 ∨ w = 8 := by omega
  rcases h with rfl | rfl | rfl | rfl | rfl | rfl | rfl | rfl | rfl <;> decide
theorem answer9 {w : Int} {bs : List Bool} (h0 : 0 ≤ w) (h1 : w < 9) (h2 : (bs.length : Int) = lo9.getD w.toNat 0 ∨ (lo9.getD w.toNat 0 = 2 ∧ 2 ≤ (bs.length : Int) ∧ (bs.length : Int) ≤ 9)) :
    answerM (kinds9.getD w.toNat "") bs = .ok (answerV (kinds9.getD w.toNat "") bs) := by
  unfold answerM wantsM
  rw [least9 h0 h1]
  have h3 := lo9_in h0 h1
  generalize lo9.getD w.toNat 0 = l at *
  have c : l ≤ bs.length ∧ (bs.length : Int) ≤ (if l = 2 then 9 else l) := by
    split <;> omega
  simp only [if_pos c]
theorem ok_law {f : Addr} {fd : FuncData} (F : Fun K "law" "law" s_law f fd) (T : Txt K w mg A) (c_l_cell_at : CalX P w K mg base 1 "_law_cell_at" (sp_l_cell_at K A)) (c_answer : CalX P w K mg base 2 "answer" (sp_answer K A)) (c_l_answered : CalX P w K mg base 1 "_law_answered" (sp_l_answered K A)) : FnOk P w K mg base (L2.CX P w) 3 f fd ["_law_script"] (sp_law K A) := by
  refine F.okX sc_law (fun vs H Q E h => ?_) (fun cdv A_ outer s H vs Q E hr h => ?_)
  · obtain ⟨a, ns, rfl, _⟩ := h; rfl
  · obtain ⟨a, ns, rfl, hS, hlen, q⟩ := h
    refine ⟨_, (pss_cons (ps_set (i := 1) sc_law.nd rfl (.inl rfl) (pe_op op_mod (pe_cx c_l_cell_at hr (by decide) rfl (takes_of rfl rfl rfl rfl) (pa_cons (pv 0) (pa_cons pe_int pa_nil))) pe_int)) (pss_cons (ps_set (i := 2) sc_law.nd rfl (.inl rfl) (pe_ix ix_list (pe_lst (pa_cons pe_str (pa_cons pe_str (pa_cons pe_str (pa_cons pe_str (pa_cons pe_str (pa_cons pe_str (pa_cons pe_str (pa_cons pe_str (pa_cons pe_str pa_nil)))))))))) (pv 1) (fun _ _ => rfl))) (pss_cons (ps_set (i := 3) sc_law.nd rfl (.inl rfl) (pe_ix ix_list (pe_lst (pa_cons pe_int (pa_cons pe_int (pa_cons pe_int (pa_cons pe_int (pa_cons pe_int (pa_cons pe_int (pa_cons pe_int (pa_cons pe_int (pa_cons pe_int pa_nil)))))))))) (pv 1) (fun _ _ => rfl))) (pss_cut (ps_if (pt_cmpR op_eq (pv 3) pe_int (nomark _)) (pss_cons (ps_set (i := 3) sc_law.nd rfl (.inl rfl) (pe_op op_add pe_int (pe_op op_mod (pe_cx c_l_cell_at hr (by decide) rfl (takes_of rfl rfl rfl rfl) (pa_cons (pv 0) (pa_cons pe_int pa_nil))) pe_int))) pss_nil) pss_nil) (pss_cons (ps_setLc (i := 4) (own := [("_law_k", 7)]) (g := gName 7) (tt := tYes) rfl sc_law.nd rfl rfl (sw_true rfl rfl rfl (by decide +kernel)) (pi_range1 rfl T.n_range (pa_cons (pv 3) pa_nil)) (blkOk_by (own := [("_law_k", 7)]) (N := ["_law_script", "_law_way", "_law_kind", "_law_many", "_law_given", "_law_handed", "_law_found", "_law_k"]) (sc := defScope s_law) (by decide +kernel)) (fun _ _ _ _ _ => pg_name (i := 7) sc_law.nd rfl (Or.inl rfl)) (fun _ _ _ _ _ => pts_nil) (fun _ _ _ _ _ => (pe_cmpR op_eq (pe_op op_mod (pe_cx c_l_cell_at hr (by decide) rfl takes0 (pa_cons (pv 0) (pa_cons (pe_op op_add pe_int (pv 7)) pa_nil))) pe_int) pe_int (nomark _)))) (pss_cut (ps_if (pt_cmpR op_eq (pe_op op_mod (pe_op op_fdiv (pe_cx c_l_cell_at hr (by decide) rfl (takes_of rfl rfl rfl rfl) (pa_cons (pv 0) (pa_cons pe_int pa_nil))) pe_int) pe_int) pe_int (nomark _)) (pss_cons (ps_set (i := 4) sc_law.nd rfl (.inl rfl) (pe_op op_rep (pe_lst (pa_cons (pe_cmpR op_eq (pe_op op_mod (pe_cx c_l_cell_at hr (by decide) rfl (takes_of rfl rfl rfl rfl) (pa_cons (pv 0) (pa_cons pe_int pa_nil))) pe_int) pe_int (nomark _)) pa_nil)) (pv 3))) pss_nil) pss_nil) (pss_cut (ps_if (PW.pt (pw_and (pt_cmpR op_eq (pe_op op_mod (pe_op op_fdiv (pe_cx c_l_cell_at hr (by decide) rfl (takes_of rfl rfl rfl rfl) (pa_cons (pv 0) (pa_cons pe_int pa_nil))) pe_int) pe_int) pe_int (nomark _)) (pw_and1 (pt_cmpR op_gt (pv 3) pe_int (nomark _))))) (pss_cons (ps_set (i := 4) sc_law.nd rfl (.inl rfl) (pe_op op_rep (pe_lst (pa_cons (pe_cmpR op_eq (pe_op op_mod (pe_cx c_l_cell_at hr (by decide) rfl (takes_of rfl rfl rfl rfl) (pa_cons (pv 0) (pa_cons pe_int pa_nil))) pe_int) pe_int (nomark _)) pa_nil)) (pv 3))) (pss_cons (ps_asg (pe_cmpR op_eq (pe_op op_mod (pe_cx c_l_cell_at hr (by decide) rfl (takes_of rfl rfl rfl rfl) (pa_cons (pv 0) (pa_cons pe_int pa_nil))) pe_int) pe_int (nomark _)) (pg_sub (pv 4) (pe_op op_mod (pe_cx c_l_cell_at hr (by decide) rfl (takes_of rfl rfl rfl rfl) (pa_cons (pv 0) (pa_cons pe_int pa_nil))) (pv 3)) set_list)) pss_nil)) pss_nil) (pss_cons (ps_set (i := 5) sc_law.nd rfl (.inl rfl) (pe_callTy call_listS (by rfl) T.n_list (by decide +kernel) (pa_cons (pv 4) pa_nil))) (pss_cons (ps_set (i := 6) sc_law.nd rfl (.inl rfl) (pe_cx c_answer hr (by decide) rfl (takes_of rfl rfl rfl rfl) (pa_cons (pv 2) (pa_cons (pv 5) pa_nil)))) (pss_cons (ps_ret (pe_and (pe_callB call_isi (by rfl) T.n_isinstance (by decide +kernel) (pa_cons (pv 6) (pa_cons (pe_bltn (v := .ty "bool") rfl T.n_bool (by decide +kernel) rfl) pa_nil))) (pe_and (pe_cmpR op_eq (pv 6) (pe_cx c_l_answered hr (by decide) rfl (takes_of rfl rfl rfl rfl) (pa_cons (pv 2) (pa_cons (pv 4) pa_nil))) (nomark _)) (pe_one (pe_cmpR (op_eqD hr.units) (pv 5) (pv 4) (nomark _)))))) pss_nil)))))))))), ?_⟩
    dsimp only [cxOf, Cx.blk]
    refine Go.start (σ := [some (.ref a), none, none, none, none, none, none, none]) ?_
    refine go_asg (by walk_at "ev") ?_
    generalize hw : cell ns 0 % 9 = wy
    have w0 : 0 ≤ wy := by omega
    have w9 : wy < 9 := by omega
    have l9 := lo9_in w0 w9
    refine go_asg (ev_ixLit (el_lst (by walk_at "ea") (by decide)) (by walk_at "ev") (by exact at_map V.str kinds9 "" w0 w9)) ?_
    refine go_asg (ev_ixLit (el_lst (by walk_at "ea") (by decide)) (by walk_at "ev") (by exact at_map V.int lo9 0 w0 w9)) ?_
    generalize hz : kinds9.getD wy.toNat "" = z
    generalize hlo : lo9.getD wy.toNat 0 = lo at *
    -- how many
    refine go_cut (fun σ' G' => ∃ m : Int, σ' = [some (.ref a), some (.int wy), some (.str z), some (.int m), none, none, none, none] ∧ H = G' ∧ (m = lo ∨ (lo = 2 ∧ 2 ≤ m ∧ m ≤ 9))) (go_ifs (by walk_at "et") (fun h => ?_) (fun h => ?_)) ?_
    · have h2 : lo = 2 := of_decide_eq_true h
      refine go_asg (by walk_at "ev") (go_kn ⟨_, rfl, rfl, Or.inr ⟨h2, by omega, by omega⟩⟩)
    · exact go_kn ⟨_, rfl, rfl, Or.inl rfl⟩
    rintro σ1 G1 ⟨m, rfl, rfl, hm⟩
    have m0 : 0 ≤ m := by omega
    have m9 : m ≤ 9 := by omega
    -- the values
    refine go_asgL (el_lcR (σ := [some (.ref a), some (.int wy), some (.str z), some (.int m), none, none, none, none]) (vs := [7]) (j := 7) (n := m) (fun k => .bl (decide (cell ns (2 + k) % 2 = 1))) (by walk_at "ea") ⟨m0, by omega⟩ (fun _ => rfl) (fun k k0 k1 => ?_)) (fun p hp => ?_)
    · exact ev_op (ev_op (ev_callS (by walk_at "ea") (sv_cell_at hS (by omega))) ev_c (rv_I (by decide))) ev_c rv_eqI
    have eg : Ex H (upd H p (.lst ((List.range m.toNat).map fun k : Nat => V.bl (decide (cell ns (2 + (k : Int)) % 2 = 1))))) := Ex.new hp
    have hS1 := ex_l eg hS
    -- all alike
    refine go_cut (fun σ' G' => ∃ (p' : Addr) (bs : List Bool), σ' = [some (.ref a), some (.int wy), some (.str z), some (.int m), some (.ref p'), none, none, none] ∧ Ex H G' ∧ G' p' = some (.lst (bs.map V.bl)) ∧ (bs.length : Int) = m) (go_ifs (by walk_at "et") (fun h => ?_) (fun h => ?_)) ?_
    · refine go_asgL (el_rep (el_lst (by walk_at "ea") (by show 1 ≤ 100000; decide)) (by walk_at "ev") (by omega) (by omega)) fun p2 hp2 => ?_
      exact go_kn ⟨p2, List.replicate m.toNat (decide (cell ns 2 % 2 = 1)), rfl, eg.trans (Ex.new hp2), by rw [List.map_replicate]; exact upd_same, by rw [List.length_replicate]; omega⟩
    · exact go_kn ⟨p, (List.range m.toNat).map fun k : Nat => decide (cell ns (2 + (k : Int)) % 2 = 1), rfl, eg, by rw [List.map_map]; exact upd_same, by rw [List.length_map, List.length_range]; omega⟩
    rintro σ1 G2 ⟨p2, bs2, rfl, e2, hp2, hl2⟩
    have hS2 := ex_l e2 hS
    -- all but one
    refine go_cut (fun σ' G' => ∃ (p' : Addr) (bs : List Bool), σ' = [some (.ref a), some (.int wy), some (.str z), some (.int m), some (.ref p'), none, none, none] ∧ Ex H G' ∧ G' p' = some (.lst (bs.map V.bl)) ∧ (bs.length : Int) = m) (go_ifs (by walk_at "et") (fun h => ?_) (fun h => ?_)) ?_
    · have h3 : 0 < m := by
        simp only [Bool.and_eq_true, decide_eq_true_eq] at h
        exact h.2
      refine go_asgL (el_rep (el_lst (by walk_at "ea") (by show 1 ≤ 100000; decide)) (by walk_at "ev") (by omega) (by omega)) fun p3 hp3 => ?_
      generalize hb : decide (cell ns 2 % 2 = 1) = b2
      have e3 : Ex H (upd G2 p3 (.lst (List.replicate m.toNat (V.bl b2)))) := e2.trans (Ex.new hp3)
      have hS3 := ex_l e3 hS
      have q0 : 0 ≤ cell ns 3 % m := Int.emod_nonneg _ (by omega)
      have q1 : cell ns 3 % m < m := Int.emod_lt_of_pos _ h3
      refine go_setL (l := p3) (j := (cell ns 3 % m).toNat) (v := .bl (decide (cell ns 2 % 2 = 0))) (by walk_at "ev") (by walk_at "ev") upd_same (ev_is (by walk_at "ev") (by rw [Int.toNat_of_nonneg q0])) (by rw [List.length_replicate]; omega) ?_
      refine go_kn ⟨p3, (List.replicate m.toNat b2).set (cell ns 3 % m).toNat (decide (cell ns 2 % 2 = 0)), rfl, ?_, ?_, by rw [List.length_set, List.length_replicate]; omega⟩
      · rw [upd_upd]; exact e2.trans (Ex.new hp3)
      · rw [upd_same, List.map_set, List.map_replicate]
    · exact go_kn ⟨p2, bs2, rfl, e2, hp2, hl2⟩
    rintro σ1 G3 ⟨p3, bs, rfl, e3, hp3, hl3⟩
    have ha := answer9 (bs := bs) w0 w9 (by rw [hlo, hl3]; omega)
    rw [hz] at ha
    refine go_asgL (el_list (by walk_at "ev") (sq_of hp3)) fun p4 hp4 => ?_
    have n34 : p3 ≠ p4 := ne_of_none hp3 hp4
    have hp3' : SqL K (upd G3 p4 (.lst (bs.map V.bl))) p3 (bs.map V.bl) := ex_l (Ex.new hp4) (sq_of hp3)
    have hp4' : SqL K (upd G3 p4 (.lst (bs.map V.bl))) p4 (bs.map V.bl) := sq_of upd_same
    have lb : bs.length ≤ 40000 := by omega
    refine go_asg (v := .bl (answerV z bs)) (ev_callS (by walk_at "ea") (spv_out (r := answerM z bs) (A := A) (f := V.bl) (fun H1 e1 Q1 E1 o1 => ⟨z, p4, bs, rfl, ex_l e1 hp4', lb, o1⟩) ha)) ?_
    refine go_ret (v := .bl (true && (decide (answerV z bs = answerV z bs) && true))) (ev_andV (by walk_at "ev") fun _ => ev_andV (ev_op (by walk_at "ev") (by walk_at "ev") rv_eqB) fun _ => ev_op (by walk_at "ev") (by walk_at "ev") (rv_eqD (dp_bools hp4') (dp_bools hp3') (shaped_bools bs))) fun H1 e1 => ?_
    have e5 : (true && (decide (answerV z bs = answerV z bs) && true)) = true := by simp
    rw [e5]
    exact q H1

end

section
variable {P : Program} {w : World} {K : PySem.W.Frag} {mg : Str → Option Value} {base : Heap} {A : Ads}

theorem law_all {fa : Addr} (T : Txt K w mg A) (d_l_cell_at : DefAt K mg "_law_cell_at" "_law_cell_at" s_l_cell_at ["_law_script", "_law_k"]) (d_wants : DefAt K mg "wants" "wants" s_wants ["kind"]) (d_answer : DefAt K mg "answer" "answer" s_answer ["kind", "given"]) (d_l_answered : DefAt K mg "_law_answered" "_law_answered" s_l_answered ["_law_kind", "_law_given"]) (d_law : DefAt K mg "law" "law" s_law ["_law_script"]) (hfa : mg "law" = some (.ref fa)) : ∃ fd : FuncData, (∀ (s : Shared) (u : Value), BindsTo s fd ⟨[u], []⟩ [("_law_script", u)]) ∧ ∀ base : Heap, K.In base → base.Ns mainGlobals mg → FnOk P w K mg base (L2.CX P w) 3 fa fd ["_law_script"] (sp_law K A) :=
  law_of d_law hfa fun base {_ _} F => by
    have c_l_cell_at : CalX P w K mg base 1 "_law_cell_at" (sp_l_cell_at K A) := cal_of d_l_cell_at fun F => ok_l_cell_at F T 
    have c_wants : CalX P w K mg base 1 "wants" (sp_wants K A) := cal_of d_wants fun F => ok_wants F T 
    have c_answer : CalX P w K mg base 2 "answer" (sp_answer K A) := cal_of d_answer fun F => ok_answer F T c_wants
    have c_l_answered : CalX P w K mg base 1 "_law_answered" (sp_l_answered K A) := cal_of d_l_answered fun F => ok_l_answered F T 
    exact ok_law F T c_l_cell_at c_answer c_l_answered
theorem txt_of {h : Heap} {cLEAST cSignalError cNoKind cNoSources : Addr} {a0 b0 a1 b1 a2 b2 a3 b3 a4 b4 a5 b5 a6 b6 a7 b7 a8 b8 : Tok}{tokc_MANY_SOURCES : Tok} (X : K.In h) (G : h.Ns mainGlobals mg) (aL : PySem.W.nsIn K mainGlobals "LEAST" = some (some (.ref cLEAST))) (lL : K.lookup cLEAST = some { cls := .type "dict", data := .dict #[{ hash := PyData.keyHash w.params "yes", key := .str "yes" a0, val := .int 0 b0 }, { hash := PyData.keyHash w.params "no", key := .str "no" a1, val := .int 0 b1 }, { hash := PyData.keyHash w.params "keep", key := .str "keep" a2, val := .int 1 b2 }, { hash := PyData.keyHash w.params "not", key := .str "not" a3, val := .int 1 b3 }, { hash := PyData.keyHash w.params "both", key := .str "both" a4, val := .int 2 b4 }, { hash := PyData.keyHash w.params "either", key := .str "either" a5, val := .int 2 b5 }, { hash := PyData.keyHash w.params "unlike", key := .str "unlike" a6, val := .int 2 b6 }, { hash := PyData.keyHash w.params "pick", key := .str "pick" a7, val := .int 3 b7 }, { hash := PyData.keyHash w.params "most", key := .str "most" a8, val := .int 3 b8 }] 9 }) (wL : (cLEAST == sysModules) = false) (a_SignalError : PySem.W.nsIn K mainGlobals "SignalError" = some (some (.ref cSignalError))) (x_SignalError : PySem.W.excIn K cSignalError [.type "ValueError", .type "Exception", .type "BaseException", .type "object"] "ValueError.__new__" = true) (k_SignalError : PySem.W.keepIn K (.ref cSignalError) = true) (b_SignalError : PySem.W.subIn K (.ref cSignalError) (.type "BaseException") = some true) (t_SignalError : PySem.W.typeIn K (.ref cSignalError) = some (.type "type")) (a_NoKind : PySem.W.nsIn K mainGlobals "NoKind" = some (some (.ref cNoKind))) (x_NoKind : PySem.W.excIn K cNoKind [.type "ValueError", .type "Exception", .type "BaseException", .type "object"] "ValueError.__new__" = true) (k_NoKind : PySem.W.keepIn K (.ref cNoKind) = true) (b_NoKind : PySem.W.subIn K (.ref cNoKind) (.type "BaseException") = some true) (t_NoKind : PySem.W.typeIn K (.ref cNoKind) = some (.type "type")) (a_NoSources : PySem.W.nsIn K mainGlobals "NoSources" = some (some (.ref cNoSources))) (x_NoSources : PySem.W.excIn K cNoSources [.type "ValueError", .type "Exception", .type "BaseException", .type "object"] "ValueError.__new__" = true) (k_NoSources : PySem.W.keepIn K (.ref cNoSources) = true) (b_NoSources : PySem.W.subIn K (.ref cNoSources) (.type "BaseException") = some true) (t_NoSources : PySem.W.typeIn K (.ref cNoSources) = some (.type "type")) (n_range : PySem.W.nsIn K mainGlobals "range" = some none) (n_len : PySem.W.nsIn K mainGlobals "len" = some none) (n_all : PySem.W.nsIn K mainGlobals "all" = some none) (n_any : PySem.W.nsIn K mainGlobals "any" = some none) (n_list : PySem.W.nsIn K mainGlobals "list" = some none) (n_bool : PySem.W.nsIn K mainGlobals "bool" = some none) (n_isinstance : PySem.W.nsIn K mainGlobals "isinstance" = some none) (n_ValueError : PySem.W.nsIn K mainGlobals "ValueError" = some none) (c_MANY_SOURCES : PySem.W.nsIn K mainGlobals "MANY_SOURCES" = some (some (.int 9 tokc_MANY_SOURCES))) : Txt K w mg ⟨cLEAST, cSignalError, 0, cNoKind, cNoSources, 0, 0, 0, 0, 0, 0, 0⟩ := ⟨PySem.W.mg_none_of X G n_range, PySem.W.mg_none_of X G n_len, PySem.W.mg_none_of X G n_all, PySem.W.mg_none_of X G n_any, PySem.W.mg_none_of X G n_list, PySem.W.mg_none_of X G n_bool, PySem.W.mg_none_of X G n_isinstance, PySem.W.mg_none_of X G n_ValueError, ⟨_, PySem.W.mg_of X G c_MANY_SOURCES, tokc_MANY_SOURCES, rfl⟩, PySem.W.mg_of X G aL, least_at lL wL, PySem.W.mg_of X G a_SignalError, x_SignalError, k_SignalError, b_SignalError, t_SignalError, PySem.W.mg_of X G a_NoKind, x_NoKind, k_NoKind, b_NoKind, t_NoKind, PySem.W.mg_of X G a_NoSources, x_NoSources, k_NoSources, b_NoSources, t_NoSources⟩
end
end Sg
open PySem PySem.W PyProof.Rows in
set_option maxRecDepth 100000 in
set_option maxHeartbeats 0 in
theorem PySem.Challenge.cw_signalgraph_k01_answers_holds : PySem.Challenge.rw_signalgraph_k01_answers.Holds := by
  w_on; o_law; k_head; (case hw => w_witness2)
  k_fill
  refine L2.walk_of (n := 63) (k := 3) (x := "_law_script") (CX := fun w => L2.CX PySem.Challenge.rw_signalgraph_k01_answers.prog w) (sp := fun w vs H Q E => ∃ (a : Addr) (ns : List Int), vs = [.ref a] ∧ L2.SqL _ H a (ns.map L2.V.int) ∧ ns.length ≤ 63 ∧ ∀ H', Q (.bl true) H') rfl (by decide) rfl ⟨rfl, by decide, by decide⟩ (fun w h Y => PySem.W.kIn_of Y) ?F (fun _ _ a ns hl _ hS => ⟨a, ns, rfl, hS, hl, fun _ => rfl⟩) ?Z
  case Z =>
    intro w H s e s' z
    obtain ⟨_, _, _, _, _, _, _, _, _, _, _, _, z⟩ := z
    exact z.elim
  case F =>
    intro w mg fa h KX G hmg
    refine' Sg.law_all (Sg.txt_of (w := w) KX G ?aL ?lL ?wL ?a_SignalError ?x_SignalError ?k_SignalError ?b_SignalError ?t_SignalError ?a_NoKind ?x_NoKind ?k_NoKind ?b_NoKind ?t_NoKind ?a_NoSources ?x_NoSources ?k_NoSources ?b_NoSources ?t_NoSources ?n_range ?n_len ?n_all ?n_any ?n_list ?n_bool ?n_isinstance ?n_ValueError ?c_MANY_SOURCES) (Sg.def_at KX G ?a0 ?l0 ?c0 ?k0 fun _ _ _ _ _ _ us hl => match us, hl with | [_, _], _ => rfl) (Sg.def_at KX G ?a1 ?l1 ?c1 ?k1 fun _ _ _ _ _ _ us hl => match us, hl with | [_], _ => rfl) (Sg.def_at KX G ?a2 ?l2 ?c2 ?k2 fun _ _ _ _ _ _ us hl => match us, hl with | [_, _], _ => rfl) (Sg.def_at KX G ?a3 ?l3 ?c3 ?k3 fun _ _ _ _ _ _ us hl => match us, hl with | [_, _], _ => rfl) (Sg.def_at KX G ?a4 ?l4 ?c4 ?k4 fun _ _ _ _ _ _ us hl => match us, hl with | [_], _ => rfl) hmg
    (case aL => k_is)
    (case lL => k_is)
    (case wL => rfl)
    (case a_SignalError => k_is)
    (case x_SignalError => k_exc)
    (case k_SignalError => k_is)
    (case b_SignalError => k_is)
    (case t_SignalError => k_is)
    (case a_NoKind => k_is)
    (case x_NoKind => k_exc)
    (case k_NoKind => k_is)
    (case b_NoKind => k_is)
    (case t_NoKind => k_is)
    (case a_NoSources => k_is)
    (case x_NoSources => k_exc)
    (case k_NoSources => k_is)
    (case b_NoSources => k_is)
    (case t_NoSources => k_is)
    (case n_range => k_is)
    (case n_len => k_is)
    (case n_all => k_is)
    (case n_any => k_is)
    (case n_list => k_is)
    (case n_bool => k_is)
    (case n_isinstance => k_is)
    (case n_ValueError => k_is)
    (case c_MANY_SOURCES => k_is)
    (case a0 => k_is)
    (case l0 => k_is)
    (case c0 => k_is)
    (case k0 => k_is)
    (case a1 => k_is)
    (case l1 => k_is)
    (case c1 => k_is)
    (case k1 => k_is)
    (case a2 => k_is)
    (case l2 => k_is)
    (case c2 => k_is)
    (case k2 => k_is)
    (case a3 => k_is)
    (case l3 => k_is)
    (case c3 => k_is)
    (case k3 => k_is)
    (case a4 => k_is)
    (case l4 => k_is)
    (case c4 => k_is)
    (case k4 => k_is)
