import PyProof.Rows.All
import Wide.All
import OpenK.AllK
import Wide.FinOn
import HandS.ForExc
import HandS.ForMost
import HandS.Evl
import HandS.IsInst
import HandS.TryOnly
import HandS.ExcIs
import HandS.TupAny
import HandS.TupMul
import HandS.SortInts
import HandS.Codes
import HandS.More
import HandS.Steps
import HandS.SortKw
import HandS.TryMany
import KE.DataMinMax
import PySem.Challenge.RW_signalgraph_k02_kinds_and_sources
set_option Elab.async false
set_option linter.all false
set_option maxRecDepth 100000
set_option maxHeartbeats 300000
/-! The base of all laws: calls of a def by its promise, steps over a known heap (Go). -/
namespace Sg
open PySem L2 Evl

/-! ### a def that may be called by its name -/
structure CalX (P : Program) (w : World) (K : PySem.W.Frag) (mg : Str → Option Value) (base : Heap) (k : Nat) (x : Str) (sp : Sp) : Prop where
  ex : ∃ (f : Addr) (fd : FuncData) (ps : List Str), FnOk P w K mg base (L2.CX P w) k f fd ps sp ∧ mg x = some (.ref f) ∧ PySem.W.keepIn K (.ref f) = true ∧ Binds K fd ps []
theorem pe_cx {X : Cx} {W : WX} {k j : Nat} {x : Str} {sp : Sp} {p pos : Pos} {e : Expr} {es : List Expr} {t : TA} (c : CalX X.prog X.w X.K X.mg X.base k x sp) (hr : Room j X.A) (hk : k ≤ j) (hg : Gl X x) (tk : Takes X W) (ht : PA X (e :: es) t)
    (hdb : (x == ("__debug__" : Str)) = false := by decide) (he : starEach (e :: es) X.env = (false, eval e X.env) :: starEach es X.env := by rfl) (hpl : (backTo pos (starEach es X.env)).any (·.1) = false := by rfl) :
    PE X (.Call (.Name x p) (e :: es) [] pos) (tCallS sp (WE W) t) := by
  obtain ⟨f, fd, ps, F, hm, hkp, hb⟩ := c.ex
  exact pe_callS F (hr.mono hk) hg hm hkp hb (fun σ => passAt tk σ) ht hdb he hpl

/-! ### the heap: more of extension -/
theorem upd_get {H : Hp} {a b : Addr} {o : HO} : upd H a o b = if b = a then some o else H b := rfl
theorem none_upd {H : Hp} {p q : Addr} {o : HO} : upd H p o q = none ↔ q ≠ p ∧ H q = none := by
  rw [upd_get]
  by_cases h : q = p
  · rw [if_pos h]; exact ⟨fun z => (by cases z), fun z => absurd h z.1⟩
  · rw [if_neg h]; exact ⟨fun z => ⟨h, z⟩, fun z => z.2⟩
theorem _root_.Evl.Ex.put {G H : Hp} {p : Addr} {o : HO} (e : Ex G H) : Ex (upd G p o) (upd H p o) := fun a u h => by
  rw [upd_get] at h ⊢
  by_cases q : a = p
  · rw [if_pos q] at h ⊢; exact h
  · rw [if_neg q] at h ⊢; exact e a u h
theorem _root_.Evl.Ex.know {G H : Hp} {p : Addr} {o : HO} (e : Ex G H) (h : H p = some o) (hp : G p = none) : Ex (upd G p o) H := fun a u q => by
  rw [upd_get] at q
  by_cases z : a = p
  · rw [if_pos z] at q; rw [z, h]; exact q
  · rw [if_neg z] at q; exact e a u q
theorem _root_.Evl.Ex.none {G H : Hp} {p : Addr} (e : Ex G H) (h : H p = none) : G p = none := fresh_back e h
theorem ex_of_eq {G H : Hp} (h : G = H) : Ex G H := h ▸ Ex.refl _

/-! ### from a known heap -/
/-- whatever else stands, from what is known (G) the statement brings about what is wanted -/
def Go (t : TS) (D : Ends) (σ : L2.St) (G : Hp) : Prop := ∀ H, Ex G H → t D σ H
/-- an end said of what is known -/
def Kn (P : L2.St → Hp → Prop) : L2.St → Hp → Prop := fun σ H => ∃ G, Ex G H ∧ P σ G
section
variable {K : PySem.W.Frag} {σ : L2.St} {G G' H : Hp} {ta tb te tx : TE} {t u : TT} {x y z v : V} {D : Ends} {tu tw tz ts : TS} {g : TG}
theorem Go.start (h : Go ts D σ G) : ts D σ G := h G (Ex.refl G)
theorem Go.weak (e : Ex G G') (h : Go ts D σ G) : Go ts D σ G' := fun H e2 => h H (e.trans e2)
theorem go_next (h : ∀ H, Ex G H → D.nx σ H) : Go tNext D σ G := h
theorem go_kn {P : L2.St → Hp → Prop} {rt : VK} {bk ct : L2.St → Hp → Prop} (h : P σ G) : Go tNext ⟨Kn P, rt, bk, ct⟩ σ G := fun _ e => ⟨G, e, h⟩
theorem go_up {rt : VK} {bk ct : L2.St → Hp → Prop} {D' : Ends} (h : Go tz D' σ G) : Go tNext ⟨tz D', rt, bk, ct⟩ σ G := h
theorem go_seq (h : Go ts { D with nx := tz D } σ G) : Go (tSeq ts tz) D σ G := h
/-- where a statement's own end is Kn P, what follows goes on from P -/
theorem go_asg {i : Nat} (h : Ev te σ G v) (k : Go tz D (σ.set i (some v)) G) : Go (tSeq (tAsg te (gName i)) tz) D σ G := fun H e =>
  h H e _ fun H1 e1 => k H1 (e.trans e1)
theorem go_asgL {i : Nat} {xs : List V} (h : EvL te σ G xs) (k : ∀ p, G p = none → Go tz D (σ.set i (some (.ref p))) (upd G p (.lst xs))) : Go (tSeq (tAsg te (gName i)) tz) D σ G := fun H e =>
  h H e _ fun p H1 hp e1 h1 => k p (e.none hp) H1 ((e.trans e1).know h1 (e.none hp))
theorem go_asgU {i : Nat} {xs : List V} (h : EvU te σ G xs) (k : ∀ p, G p = none → Go tz D (σ.set i (some (.ref p))) (upd G p (.tup xs))) : Go (tSeq (tAsg te (gName i)) tz) D σ G := fun H e =>
  h H e _ fun p H1 hp e1 h1 => k p (e.none hp) H1 ((e.trans e1).know h1 (e.none hp))
theorem go_drop (h : Ev te σ G v) (k : Go tz D σ G) : Go (tSeq (tDrop te) tz) D σ G := fun H e => h H e _ fun H1 e1 => k H1 (e.trans e1)
theorem go_ret (h : Ev te σ G v) (k : ∀ H, Ex G H → D.rt v H) : Go (tSeq (tRet te) tz) D σ G := fun H e => h H e _ fun H1 e1 => k H1 (e.trans e1)
theorem go_retL {xs : List V} (h : EvL te σ G xs) (k : ∀ p H, G p = none → Ex G H → H p = some (.lst xs) → D.rt (.ref p) H) : Go (tSeq (tRet te) tz) D σ G := fun H e =>
  h H e _ fun p H1 hp e1 h1 => k p H1 (e.none hp) (e.trans e1) h1
theorem go_retU {xs : List V} (h : EvU te σ G xs) (k : ∀ p H, G p = none → Ex G H → H p = some (.tup xs) → D.rt (.ref p) H) : Go (tSeq (tRet te) tz) D σ G := fun H e =>
  h H e _ fun p H1 hp e1 h1 => k p H1 (e.none hp) (e.trans e1) h1
theorem go_if {b : Bool} (h : EvT t σ G b) (h1 : b = true → Go tu { D with nx := tz D } σ G) (h2 : b = false → Go tw { D with nx := tz D } σ G) : Go (tSeq (tIfS t tu tw) tz) D σ G := fun H e =>
  h H e _ fun H1 e1 => by
    cases b with
    | true =>
      show tu { D with nx := tz D } σ H1
      exact h1 rfl H1 (e.trans e1)
    | false =>
      show tw { D with nx := tz D } σ H1
      exact h2 rfl H1 (e.trans e1)
/-- an if without else -/
theorem go_when {b : Bool} (h : EvT t σ G b) (h1 : b = true → Go tu { D with nx := tz D } σ G) (h2 : b = false → Go tz D σ G) : Go (tSeq (tIfS t tu tNext) tz) D σ G := go_if h h1 fun hb => go_up (h2 hb)
theorem go_app {l : Addr} {xs : List V} (ha : Ev ta σ G (.ref l)) (hl : G l = some (.lst xs)) (h : Ev te σ G v) (hz : xs.length < 100000) (k : Go tz D σ (upd G l (.lst (xs ++ [v])))) :
    Go (tSeq (tDrop (tBM K "list" rAppend ta (tCons te tNil))) tz) D σ G := fun H e => ha H e _ fun H1 e1 =>
  ⟨Or.inl ⟨rfl, xs, sq_of (e1 l _ (e l _ hl))⟩, h H1 (e.trans e1) _ fun H2 e2 => ⟨l, xs, v, rfl, rfl, e2 l _ (e1 l _ (e l _ hl)), sz_lt hz, k _ (Ex.put ((e.trans e1).trans e2))⟩⟩
/-- append of an object that is made on the way (or handed back by a call): P says what is known of it -/
theorem go_setL {l : Addr} {xs : List V} {j : Nat} (h : Ev te σ G v) (ho : Ev ta σ G (.ref l)) (hl : G l = some (.lst xs)) (hi : Ev tb σ G (.int (j : Int))) (hj : j < xs.length) (k : Go tz D σ (upd G l (.lst (xs.set j v)))) :
    Go (tSeq (tAsg te (gSub ta tb rSetL)) tz) D σ G := fun H e => h H e _ fun H1 e1 => ho H1 (e.trans e1) _ fun H2 e2 => hi H2 ((e.trans e1).trans e2) _ fun H3 e3 =>
  ⟨l, xs, (j : Int), j, rfl, rfl, (((e.trans e1).trans e2).trans e3) l _ hl, ixN_nat hj, k _ (Ex.put (((e.trans e1).trans e2).trans e3))⟩

/-! ### what evaluates to something of which P holds -/
def EvP (te : TE) (σ : L2.St) (G : Hp) (P : V → Hp → Prop) : Prop := ∀ H, Ex G H → ∀ Q : VK, (∀ v G' H', Ex G G' → Ex G' H' → Ex H H' → P v G' → Q v H') → te σ H Q
theorem EvP.of (h : Ev te σ G v) : EvP te σ G fun x G' => x = v ∧ G' = G := fun H e Q q => h H e Q fun H1 e1 => q v G H1 (Ex.refl G) (e.trans e1) e1 ⟨rfl, rfl⟩
theorem go_asgP {i : Nat} {P : V → Hp → Prop} (h : EvP te σ G P) (k : ∀ v G', Ex G G' → P v G' → Go tz D (σ.set i (some v)) G') : Go (tSeq (tAsg te (gName i)) tz) D σ G := fun H e =>
  h H e _ fun v G' H1 e1 e2 _ p => k v G' e1 p H1 e2
theorem go_retP {P : V → Hp → Prop} (h : EvP te σ G P) (k : ∀ v G' H, Ex G G' → Ex G' H → P v G' → D.rt v H) : Go (tSeq (tRet te) tz) D σ G := fun H e =>
  h H e _ fun v G' H1 e1 e2 _ p => k v G' H1 e1 e2 p
theorem go_dropP {P : V → Hp → Prop} (h : EvP te σ G P) (k : ∀ v G', Ex G G' → P v G' → Go tz D σ G') : Go (tSeq (tDrop te) tz) D σ G := fun H e =>
  h H e _ fun v G' H1 e1 e2 _ p => k v G' e1 p H1 e2
theorem go_appP {P : V → Hp → Prop} {l : Addr} {xs : List V} (ha : Ev ta σ G (.ref l)) (hl : G l = some (.lst xs)) (h : EvP te σ G P) (hz : xs.length < 100000)
    (k : ∀ v G', Ex G G' → P v G' → Go tz D σ (upd G' l (.lst (xs ++ [v])))) :
    Go (tSeq (tDrop (tBM K "list" rAppend ta (tCons te tNil))) tz) D σ G := fun H e => ha H e _ fun H1 e1 =>
  ⟨Or.inl ⟨rfl, xs, sq_of (e1 l _ (e l _ hl))⟩, h H1 (e.trans e1) _ fun v G' H2 g1 g2 e2 p => ⟨l, xs, v, rfl, rfl, e2 l _ (e1 l _ (e l _ hl)), sz_lt hz, k v G' g1 p _ (Ex.put g2)⟩⟩
theorem go_setLP {P : V → Hp → Prop} {l : Addr} {xs : List V} {j : Nat} (h : EvP te σ G P) (ho : ∀ G', Ex G G' → Ev ta σ G' (.ref l)) (hl : G l = some (.lst xs)) (hi : ∀ G', Ex G G' → Ev tb σ G' (.int (j : Int))) (hj : j < xs.length)
    (k : ∀ v G', Ex G G' → P v G' → Go tz D σ (upd G' l (.lst (xs.set j v)))) :
    Go (tSeq (tAsg te (gSub ta tb rSetL)) tz) D σ G := fun H e => h H e _ fun v G' H1 g1 g2 e1 p => ho G' g1 H1 g2 _ fun H2 e2 => hi G' g1 H2 (g2.trans e2) _ fun H3 e3 =>
  ⟨l, xs, (j : Int), j, rfl, rfl, e3 l _ (e2 l _ (g2 l _ (g1 l _ hl))), ixN_nat hj, k v G' g1 p _ (Ex.put ((g2.trans e2).trans e3))⟩
/-- arguments of which P holds -/
def EvAP (ta : TA) (σ : L2.St) (G : Hp) (P : List V → Hp → Prop) : Prop := ∀ H, Ex G H → ∀ Q : List V → Hp → Prop, (∀ vs G' H', Ex G G' → Ex G' H' → Ex H H' → P vs G' → Q vs H') → ta σ H Q
theorem EvAP.of {ta : TA} {vs : List V} (h : EvA ta σ G vs) : EvAP ta σ G fun xs G' => xs = vs ∧ G' = G := fun H e Q q => h H e Q fun H1 e1 => q vs G H1 (Ex.refl G) (e.trans e1) e1 ⟨rfl, rfl⟩
theorem eap_nil : EvAP tNil σ G fun xs G' => xs = [] ∧ G' = G := EvAP.of ea_nil
theorem eap_cons {tr : TA} {P : V → Hp → Prop} {R : V → List V → Hp → Prop} (h : EvP te σ G P) (hr : ∀ v G', Ex G G' → P v G' → EvAP tr σ G' (R v)) :
    EvAP (tCons te tr) σ G fun xs G' => ∃ v vs G1, xs = v :: vs ∧ Ex G G1 ∧ Ex G1 G' ∧ P v G1 ∧ R v vs G' := fun H e Q q =>
  h H e _ fun v G1 H1 g1 g2 e1 p => hr v G1 g1 p H1 g2 _ fun vs G2 H2 k1 k2 e2 r => q (v :: vs) G2 H2 (g1.trans k1) k2 (e1.trans e2) ⟨v, vs, G1, rfl, g1, k1, p, r⟩
theorem eap_ev {tr : TA} {R : List V → Hp → Prop} (h : Ev te σ G v) (hr : EvAP tr σ G R) : EvAP (tCons te tr) σ G fun xs G' => ∃ vs, xs = v :: vs ∧ R vs G' := fun H e Q q =>
  h H e _ fun H1 e1 => hr H1 (e.trans e1) _ fun vs G2 H2 k1 k2 e2 r => q (v :: vs) G2 H2 k1 k2 (e1.trans e2) ⟨vs, rfl, r⟩
/-- the last argument of which something is said; those behind it evaluate -/
theorem eap_p {tr : TA} {P : V → Hp → Prop} {ws : List V} (h : EvP te σ G P) (hr : ∀ v G', Ex G G' → P v G' → EvA tr σ G' ws) : EvAP (tCons te tr) σ G fun xs G' => ∃ v, xs = v :: ws ∧ P v G' := fun H e Q q =>
  h H e _ fun v G1 H1 g1 g2 e1 p => hr v G1 g1 p H1 g2 _ fun H2 e2 => q (v :: ws) G1 H2 g1 (g2.trans e2) (e1.trans e2) ⟨v, rfl, p⟩
theorem ep_L {xs : List V} (h : EvL te σ G xs) : EvP te σ G fun v G' => ∃ p, v = .ref p ∧ G p = none ∧ G' = upd G p (.lst xs) := fun H e Q q =>
  h H e Q fun p H1 hp e1 h1 => q _ (upd G p (.lst xs)) H1 (Ex.new (e.none hp)) ((e.trans e1).know h1 (e.none hp)) e1 ⟨p, rfl, e.none hp, rfl⟩
theorem ep_U {xs : List V} (h : EvU te σ G xs) : EvP te σ G fun v G' => ∃ p, v = .ref p ∧ G p = none ∧ G' = upd G p (.tup xs) := fun H e Q q =>
  h H e Q fun p H1 hp e1 h1 => q _ (upd G p (.tup xs)) H1 (Ex.new (e.none hp)) ((e.trans e1).know h1 (e.none hp)) e1 ⟨p, rfl, e.none hp, rfl⟩
/-- a tuple of what is made on the way -/
theorem ep_tup {ta : TA} {P : List V → Hp → Prop} {R : V → Hp → Prop} (h : EvAP ta σ G P) (hl : ∀ vs G', P vs G' → vs.length ≤ 100000) (hR : ∀ vs G' p, Ex G G' → P vs G' → G' p = none → R (.ref p) (upd G' p (.tup vs))) : EvP (tTup ta) σ G R := fun H e Q q =>
  h H e _ fun vs G' H1 g1 g2 e1 p => ⟨sz_of (hl vs G' p), fun a ha => q _ (upd G' a (.tup vs)) _ (g1.trans (Ex.new (g2.none ha))) (Ex.put g2) (e1.trans (Ex.new ha)) (hR vs G' a g1 p (g2.none ha))⟩
theorem ep_lst {ta : TA} {P : List V → Hp → Prop} {R : V → Hp → Prop} (h : EvAP ta σ G P) (hl : ∀ vs G', P vs G' → vs.length ≤ 100000) (hR : ∀ vs G' p, Ex G G' → P vs G' → G' p = none → R (.ref p) (upd G' p (.lst vs))) : EvP (tLst ta) σ G R := fun H e Q q =>
  h H e _ fun vs G' H1 g1 g2 e1 p => ⟨sz_of (hl vs G' p), fun a ha => q _ (upd G' a (.lst vs)) _ (g1.trans (Ex.new (g2.none ha))) (Ex.put g2) (e1.trans (Ex.new ha)) (hR vs G' a g1 p (g2.none ha))⟩

/-! ### calls of defs: what a promise gives -/
/-- the def hands back v -/
def SpG (sp : Sp) (vs : List V) (G : Hp) (P : V → Hp → Prop) : Prop := ∀ H, Ex G H → ∀ Q : VK, ∀ E : XK, (∀ v G' H', Ex G G' → Ex G' H' → Ex H H' → P v G' → Q v H') → sp vs H Q E
theorem ep_call {sp : Sp} {E : L2.St → XK} {ta : TA} {vs : List V} {P : V → Hp → Prop} (h : EvA ta σ G vs) (hs : SpG sp vs G P) : EvP (tCallS sp E ta) σ G P := fun H e Q q =>
  h H e _ fun H1 e1 => hs H1 (e.trans e1) Q (E σ) fun v G' H' g1 g2 e2 p => q v G' H' g1 g2 (e1.trans e2) p
theorem ep_callP {sp : Sp} {E : L2.St → XK} {ta : TA} {A : List V → Hp → Prop} {P : V → Hp → Prop} (h : EvAP ta σ G A) (hs : ∀ vs G', Ex G G' → A vs G' → SpG sp vs G' P) : EvP (tCallS sp E ta) σ G P := fun H e Q q =>
  h H e _ fun vs G1 H1 g1 g2 e1 p => hs vs G1 g1 p H1 g2 Q (E σ) fun v G' H' k1 k2 e2 p2 => q v G' H' (g1.trans k1) k2 (e1.trans e2) p2
theorem ev_callS {sp : Sp} {E : L2.St → XK} {ta : TA} {vs : List V} (h : EvA ta σ G vs) (hs : SpV sp vs G z) : Ev (tCallS sp E ta) σ G z := fun H e Q q =>
  h H e _ fun H1 e1 => hs H1 (e.trans e1) Q (fun H2 e2 => q H2 (e1.trans e2)) (E σ)
theorem el_callS {sp : Sp} {E : L2.St → XK} {ta : TA} {vs xs : List V} (h : EvA ta σ G vs) (hs : SpL sp vs G xs) : EvL (tCallS sp E ta) σ G xs := fun H e Q q =>
  h H e _ fun H1 e1 => hs H1 (e.trans e1) Q (fun p H2 hp e2 h2 => q p H2 (fresh_back e1 hp) (e1.trans e2) h2) (E σ)
theorem EvP.imp {P R : V → Hp → Prop} (h : EvP te σ G P) (i : ∀ v G', Ex G G' → P v G' → R v G') : EvP te σ G R := fun H e Q q => h H e Q fun v G' H' g1 g2 e1 p => q v G' H' g1 g2 e1 (i v G' g1 p)
theorem SpG.imp {sp : Sp} {vs : List V} {P R : V → Hp → Prop} (h : SpG sp vs G P) (i : ∀ v G', Ex G G' → P v G' → R v G') : SpG sp vs G R := fun H e Q E q => h H e Q E fun v G' H' g1 g2 e1 p => q v G' H' g1 g2 e1 (i v G' g1 p)

/-! ### more that evaluates -/
theorem ev_chain {r r' : R2} {a b : Bool} (ha : Ev ta σ G x) (hb : Ev tb σ G y) (hr : RV r x y G (.bl a)) (hc : a = true → Ev te σ G z) (hr' : a = true → RV r' y z G (.bl b)) (hb0 : a = false → b = false) :
    Ev (tChain r r' ta tb te) σ G (.bl b) := fun H e Q q => ha H e _ fun H1 e1 => hb H1 (e.trans e1) _ fun H2 e2 => hr H2 ((e.trans e1).trans e2) _ fun H3 e3 => ⟨a, rfl, by
  cases a with
  | true =>
    show te σ H3 _
    exact hc rfl H3 (((e.trans e1).trans e2).trans e3) _ fun H4 e4 => hr' rfl H4 ((((e.trans e1).trans e2).trans e3).trans e4) Q fun H5 e5 => q H5 ((((e1.trans e2).trans e3).trans e4).trans e5)
  | false =>
    show Q (.bl false) H3
    rw [← hb0 rfl]
    exact q H3 ((e1.trans e2).trans e3)⟩
theorem rv_eqI {i j : Int} : RV rEq (.int i) (.int j) G (.bl (decide (i = j))) := fun H1 _ _ q => ⟨rfl, by
  have e : decide (V.int i = V.int j) = decide (i = j) := by simp
  rw [e]; exact q H1 (Ex.refl H1)⟩
theorem rv_eqS {i j : Str} : RV rEq (.str i) (.str j) G (.bl (decide (i = j))) := fun H1 _ _ q => ⟨rfl, by
  have e : decide (V.str i = V.str j) = decide (i = j) := by simp
  rw [e]; exact q H1 (Ex.refl H1)⟩
theorem rv_eqB {i j : Bool} : RV rEq (.bl i) (.bl j) G (.bl (decide (i = j))) := fun H1 _ _ q => ⟨rfl, by
  have e : decide (V.bl i = V.bl j) = decide (i = j) := by simp
  rw [e]; exact q H1 (Ex.refl H1)⟩
theorem rv_neI {i j : Int} : RV rNe (.int i) (.int j) G (.bl (!decide (i = j))) := fun H1 _ _ q => ⟨rfl, by
  have e : decide (V.int i = V.int j) = decide (i = j) := by simp
  rw [e]; exact q H1 (Ex.refl H1)⟩
theorem rv_neS {i j : Str} : RV rNe (.str i) (.str j) G (.bl (!decide (i = j))) := fun H1 _ _ q => ⟨rfl, by
  have e : decide (V.str i = V.str j) = decide (i = j) := by simp
  rw [e]; exact q H1 (Ex.refl H1)⟩
theorem rv_neB {i j : Bool} : RV rNe (.bl i) (.bl j) G (.bl (!decide (i = j))) := fun H1 _ _ q => ⟨rfl, by
  have e : decide (V.bl i = V.bl j) = decide (i = j) := by simp
  rw [e]; exact q H1 (Ex.refl H1)⟩
theorem ev_lenT {p : Addr} {xs : List V} (ha : Ev ta σ G (.ref p)) (h : SqT K G p xs) : Ev (tCB (rLenS K) (tCons ta tNil)) σ G (.int (xs.length : Int)) := fun H1 e Q q =>
  ha H1 e _ fun H2 e2 => ⟨p, xs, rfl, Or.inr (ex_t (e.trans e2) h), q H2 e2⟩
end
/-! ### where the top's things stand -/
structure Ads where
  LEAST : Addr
  SignalError : Addr
  NoSize : Addr
  NoKind : Addr
  NoSources : Addr
  NoLine : Addr
  NoDelay : Addr
  NoValues : Addr
  Ringed : Addr
  NoDeed : Addr
  NoText : Addr
  Board : Addr
/-- what the text's table LEAST says -/
def least (z : Str) : Option Int :=
  if z = "yes" then some 0 else if z = "no" then some 0 else if z = "keep" then some 1 else if z = "not" then some 1 else if z = "both" then some 2 else if z = "either" then some 2 else if z = "unlike" then some 2
  else if z = "pick" then some 3 else if z = "most" then some 3 else none
structure LeastAt (K : PySem.W.Frag) (w : World) (d : Addr) : Prop where
  at_ : ∃ es n, L2.KDict K w d es n
  no : ∀ z, least z = none → PySem.W.nsIn K d z = some none
  yes : ∀ z i, least z = some i → ∃ t, PySem.W.nsIn K d z = some (some (.int i t))
section
variable {X : Cx} {d : Addr}
def rNotLeast (d : Addr) : R2 := fun x y H Q => ∃ z, x = .str z ∧ y = .ref d ∧ Q (.bl (!(least z).isSome)) H
def rItLeast (d : Addr) : R2 := fun x y H Q => ∃ z i, x = .ref d ∧ y = .str z ∧ least z = some i ∧ Q (.int i) H
theorem op_notIn_least (D : LeastAt X.K X.w d) : OpR X (compareOp .NotIn) (rNotLeast d) := by
  obtain ⟨es, n, k⟩ := D.at_
  intro pins s σ H x y v u Q I rx ry h
  obtain ⟨z, rfl, rfl, q⟩ := h
  cases e : least z with
  | none =>
    refine op_notIn_kd k pins s σ H _ _ v u Q I rx ry ⟨z, none, rfl, rfl, D.no z e, ?_⟩
    rw [e] at q; exact q
  | some i =>
    obtain ⟨t, ht⟩ := D.yes z i e
    refine op_notIn_kd k pins s σ H _ _ v u Q I rx ry ⟨z, _, rfl, rfl, ht, ?_⟩
    rw [e] at q; exact q
theorem ix_least (D : LeastAt X.K X.w d) : IxR X (rItLeast d) := by
  obtain ⟨es, n, k⟩ := D.at_
  intro value slice pins s σ H x y v u Q I rx ry h hs
  obtain ⟨z, i, rfl, rfl, e, q⟩ := h
  obtain ⟨t, ht⟩ := D.yes z i e
  refine ix_kdict value slice pins s σ H _ _ v u Q I rx ry ⟨d, z, .int i, rfl, rfl, ?_, q⟩ hs
  exact ⟨es, n, _, k.at_, k.lit, ht, ⟨t, rfl⟩⟩
theorem pe_gv {x : Str} {v : V} {pos : Pos} (hg : Gl X x) (h : ∃ u, X.mg x = some u ∧ RelV v u) (hd : (x == ("__debug__" : Str)) = false := by decide) : PE X (.Name x pos) (tC v) := by
  obtain ⟨u, hm, r⟩ := h
  exact pe_glob hg hm r hd
end

/-! ### what a def's promise says: it hands back what a plain function tells, or refuses as that tells -/
inductive Err | size | kind | sources | line | delay | values | ringed | deed | text
  deriving DecidableEq
def Ads.of (A : Ads) : Err → Addr
  | .size => A.NoSize | .kind => A.NoKind | .sources => A.NoSources | .line => A.NoLine | .delay => A.NoDelay | .values => A.NoValues | .ringed => A.Ringed | .deed => A.NoDeed | .text => A.NoText
def Out {α : Type} (A : Ads) (H : Hp) (Q : VK) (E : XK) (R : Hp → V → Hp → α → Prop) : Except Err α → Prop
  | .ok a => ∀ v H', Ex H H' → R H v H' a → Q v H'
  | .error e => ∀ H', Ex H H' → E (.ref (A.of e)) none H'
/-- a value of its own | a new list -/
def RV1 {α : Type} (f : α → V) : Hp → V → Hp → α → Prop := fun _ v _ a => v = f a
def RL1 {α : Type} (f : α → List V) : Hp → V → Hp → α → Prop := fun H v H' a => ∃ p, v = .ref p ∧ H p = none ∧ H' p = some (.lst (f a))
def RT1 {α : Type} (K : PySem.W.Frag) (f : α → List V) : Hp → V → Hp → α → Prop := fun _ v H' a => ∃ p, v = .ref p ∧ SqT K H' p (f a)
section
variable {α : Type} {A : Ads} {K : PySem.W.Frag} {σ : L2.St} {G H : Hp} {Q : VK} {E : XK} {R : Hp → V → Hp → α → Prop} {tr tz : TS} {D : Ends} {r : Except Err α} {sp : Sp} {vs : List V}
theorem go_raise (h : ∀ D σ H, Ex G H → tr D σ H) : Go (tSeq tr tz) D σ G := fun H e => h _ _ H e
theorem Out.ok {v : V} {H' : Hp} (o : Out A H Q E R r) (a : α) (h : r = .ok a) (e : Ex H H') (q : R H v H' a) : Q v H' := by
  subst h; exact o v H' e q
theorem Out.err {H' : Hp} (o : Out A H Q E R r) (x : Err) (h : r = .error x) (e : Ex H H') : E (.ref (A.of x)) none H' := by
  subst h; exact o H' e
/-- the promise used where it hands back -/
theorem spg_out {a : α} (hsp : ∀ H, Ex G H → ∀ Q E, Out A H Q E R r → sp vs H Q E) (h : r = .ok a) : SpG sp vs G fun v G' => ∃ H0, Ex G H0 ∧ Ex H0 G' ∧ R H0 v G' a := fun H e Q E q =>
  hsp H e Q E (by subst h; exact fun v H' e' p => q v H' H' (e.trans e') (Ex.refl _) e' ⟨H, e, e', p⟩)
theorem spv_out {f : α → V} {a : α} (hsp : ∀ H, Ex G H → ∀ Q E, Out A H Q E (RV1 f) r → sp vs H Q E) (h : r = .ok a) : SpV sp vs G (f a) := fun H e Q q E =>
  hsp H e Q E (by subst h; exact fun v H' e' p => by rw [show v = f a from p]; exact q H' e')
theorem spl_out {f : α → List V} {a : α} (hsp : ∀ H, Ex G H → ∀ Q E, Out A H Q E (RL1 f) r → sp vs H Q E) (h : r = .ok a) : SpL sp vs G (f a) := fun H e Q q E =>
  hsp H e Q E (by subst h; exact fun v H' e' p => by obtain ⟨p, rfl, hp, hl⟩ := p; exact q p H' hp e' hl)
theorem rv_notLeast {z : Str} {d : Addr} : RV (rNotLeast d) (.str z) (.ref d) G (.bl (!(least z).isSome)) := fun H1 _ _ q => ⟨z, rfl, rfl, q H1 (Ex.refl H1)⟩
theorem rv_itLeast {z : Str} {d : Addr} {i : Int} (h : least z = some i) : RV (rItLeast d) (.ref d) (.str z) G (.int i) := fun H1 _ _ q => ⟨z, i, rfl, rfl, h, q H1 (Ex.refl H1)⟩
end

/-! ### items, comprehensions, by lists of data -/
theorem at_map {α : Type} (f : α → V) (xs : List α) (d : α) {k : Int} (h0 : 0 ≤ k) (h1 : k < xs.length) : atI (xs.map f) k = some (f (xs.getD k.toNat d)) := by
  obtain ⟨j, rfl⟩ : ∃ j : Nat, k = (j : Int) := ⟨k.toNat, by omega⟩
  have hj : j < xs.length := by omega
  refine atI_nat ?_
  rw [List.getElem?_map, List.getElem?_eq_getElem hj, Int.toNat_natCast]
  simp [List.getD_eq_getElem?_getD, List.getElem?_eq_getElem hj]
theorem at_list {xs : List V} {j : Nat} {v : V} (h : xs[j]? = some v) : atI xs (j : Int) = some v := atI_nat h
theorem given_all {α : Type} (as : List α) (d : α) (p : α → Bool) (g : α → V) : ∀ n, n ≤ as.length → given n (fun i => p (as.getD i d)) (fun i => g (as.getD i d)) = ((as.take n).filter p).map g
  | 0, _ => rfl
  | n + 1, h => by
    have ih := given_all as d p g n (by omega)
    have hn : n < as.length := by omega
    have e1 : as.getD n d = as[n] := by simp [List.getD_eq_getElem?_getD, List.getElem?_eq_getElem hn]
    have e2 : as.take (n + 1) = as.take n ++ [as[n]] := by rw [List.take_add_one, List.getElem?_eq_getElem hn]; rfl
    rw [e2, List.filter_append, List.map_append]
    by_cases hp : p as[n] = true
    · rw [given_yes (by show p (as.getD n d) = true; rw [e1]; exact hp), ih]
      rw [List.filter_cons, if_pos hp, List.filter_nil, List.map_cons, List.map_nil]
      show _ ++ [g (as.getD n d)] = _
      rw [e1]
    · have hp' : p as[n] = false := by cases h : p as[n] <;> simp_all
      rw [given_no (by show p (as.getD n d) = false; rw [e1]; exact hp'), ih]
      simp [hp']
section
variable {K : PySem.W.Frag} {σ : L2.St} {G G' H : Hp} {ta tb te tx tl : TE} {t u : TT} {x y z v : V} {D : Ends} {tu tw tz ts : TS} {g : TG} {j : Nat} {vs : List Nat}
theorem ev_all {p : Addr} {bs : List Bool} (ha : Ev ta σ G (.ref p)) (h : SqL K G p (bs.map V.bl)) : Ev (tCB (rAll K) (tCons ta tNil)) σ G (.bl (bs.all id)) := fun H1 e Q q =>
  ha H1 e _ fun H2 e2 => ⟨p, bs, rfl, ex_l (e.trans e2) h, q H2 e2⟩
theorem ev_any {p : Addr} {bs : List Bool} (ha : Ev ta σ G (.ref p)) (h : SqL K G p (bs.map V.bl)) : Ev (tCB (rAny K) (tCons ta tNil)) σ G (.bl (bs.any id)) := fun H1 e Q q =>
  ha H1 e _ fun H2 e2 => ⟨p, bs, rfl, ex_l (e.trans e2) h, q H2 e2⟩
theorem ev_allN {bs : List Bool} (ha : EvL ta σ G (bs.map V.bl)) : Ev (tCB (rAll K) (tCons ta tNil)) σ G (.bl (bs.all id)) := fun H1 e Q q =>
  ha H1 e _ fun p H2 _ e2 h2 => ⟨p, bs, rfl, sq_of h2, q H2 e2⟩
theorem ev_anyN {bs : List Bool} (ha : EvL ta σ G (bs.map V.bl)) : Ev (tCB (rAny K) (tCons ta tNil)) σ G (.bl (bs.any id)) := fun H1 e Q q =>
  ha H1 e _ fun p H2 _ e2 h2 => ⟨p, bs, rfl, sq_of h2, q H2 e2⟩
/-- [e for x in xs if t] -/
theorem el_lcF {α : Type} (as : List α) (inj : α → V) (p : α → Bool) (g : α → V) {a : Addr} (h : Ev tl σ G (.ref a)) (hx : SqL K G a (as.map inj)) (hz : as.length ≤ 40000) (hw : ∀ x, wipe ((wipe σ vs).set j (some x)) vs = wipe σ vs)
    (ht : ∀ x, x ∈ as → EvT t ((wipe σ vs).set j (some (inj x))) G (p x)) (he : ∀ x, x ∈ as → p x = true → Ev te ((wipe σ vs).set j (some (inj x))) G (g x)) :
    EvL (tLc (iList K tl) (gName j) t te vs) σ G ((as.filter p).map g) := by
  cases as with
  | nil =>
    have q := el_lcL (K := K) (σ := σ) (H := G) (t := t) (te := te) (tl := tl) (j := j) (vs := vs) (a := a) (xs := []) (fun _ => true) (fun _ => V.non) h hx (Nat.zero_le _) hw (fun i x H1 _ hi => by simp at hi) (fun i x H1 _ hi => by simp at hi)
    exact q
  | cons d r =>
    have key : given (((d :: r).map inj)).length (fun i => p ((d :: r).getD i d)) (fun i => g ((d :: r).getD i d)) = ((d :: r).filter p).map g := by
      rw [List.length_map, given_all (d :: r) d p g _ (Nat.le_refl _), List.take_length]
    rw [← key]
    have item : ∀ (i : Nat) (x : V), ((d :: r).map inj)[i]? = some x → x = inj ((d :: r).getD i d) ∧ (d :: r).getD i d ∈ d :: r := fun i x hi => by
      rw [List.getElem?_map] at hi
      cases e : (d :: r)[i]? with
      | none => rw [e] at hi; cases hi
      | some y =>
        rw [e] at hi
        have e2 : (d :: r).getD i d = y := by rw [List.getD_eq_getElem?_getD, e]; rfl
        exact ⟨by rw [e2]; exact (Option.some.inj hi).symm, by rw [e2]; exact List.mem_of_getElem? e⟩
    refine el_lcL (K := K) _ _ h hx (by rw [List.length_map]; exact hz) hw (fun i x H1 e1 hi => ?_) (fun i x H1 e1 hi hf => ?_)
    · obtain ⟨rfl, hm⟩ := item i x hi
      exact (ht _ hm).mono e1
    · obtain ⟨rfl, hm⟩ := item i x hi
      exact (he _ hm hf).mono e1
theorem et_yes : EvT tYes σ G true := fun H1 _ _ q => q H1 (Ex.refl H1)
/-- [e for x in xs] -/
theorem el_lcA {α : Type} (as : List α) (inj : α → V) (g : α → V) {a : Addr} (h : Ev tl σ G (.ref a)) (hx : SqL K G a (as.map inj)) (hz : as.length ≤ 40000) (hw : ∀ x, wipe ((wipe σ vs).set j (some x)) vs = wipe σ vs)
    (he : ∀ x, x ∈ as → Ev te ((wipe σ vs).set j (some (inj x))) G (g x)) : EvL (tLc (iList K tl) (gName j) tYes te vs) σ G (as.map g) := by
  have q := el_lcF (K := K) (te := te) as inj (fun _ => true) g h hx hz hw (fun _ _ => et_yes) (fun x hx _ => he x hx)
  have e : as.filter (fun _ => true) = as := List.filter_eq_self.mpr fun _ _ => rfl
  rw [e] at q
  exact q
/-- [e for k in range(n) if t] -/
theorem el_lcRF {ta : TA} {n : Int} (p : Int → Bool) (g : Int → V) (h : EvA ta σ G [.int n]) (hn : 0 ≤ n ∧ n ≤ 40000) (hw : ∀ x, wipe ((wipe σ vs).set j (some x)) vs = wipe σ vs)
    (ht : ∀ k : Int, 0 ≤ k → k < n → EvT t ((wipe σ vs).set j (some (.int k))) G (p k)) (he : ∀ k : Int, 0 ≤ k → k < n → p k = true → Ev te ((wipe σ vs).set j (some (.int k))) G (g k)) :
    EvL (tLc (iRng1 ta) (gName j) t te vs) σ G (((List.range n.toNat).filter fun i : Nat => p (i : Int)).map fun i : Nat => g (i : Int)) := by
  have q := el_lcR1 (σ := σ) (H := G) (t := t) (te := te) (j := j) (vs := vs) (n := n) (fun i : Nat => p (i : Int)) (fun i : Nat => g (i : Int)) h hn hw (fun i H1 e1 hi => (ht i (by omega) hi).mono e1) (fun i H1 e1 hi hf => (he i (by omega) hi hf).mono e1)
  exact q
theorem el_lcR {ta : TA} {n : Int} (g : Int → V) (h : EvA ta σ G [.int n]) (hn : 0 ≤ n ∧ n ≤ 40000) (hw : ∀ x, wipe ((wipe σ vs).set j (some x)) vs = wipe σ vs)
    (he : ∀ k : Int, 0 ≤ k → k < n → Ev te ((wipe σ vs).set j (some (.int k))) G (g k)) :
    EvL (tLc (iRng1 ta) (gName j) tYes te vs) σ G ((List.range n.toNat).map fun i : Nat => g (i : Int)) := by
  have q := el_lcRF (te := te) (fun _ => true) g h hn hw (fun _ _ _ => et_yes) (fun k h0 h1 _ => he k h0 h1)
  have e : (List.range n.toNat).filter (fun _ => true) = List.range n.toNat := List.filter_eq_self.mpr fun _ _ => rfl
  rw [e] at q
  exact q
end

/-! ### what raises; chains -/
def EvF (te : TE) (σ : L2.St) (G : Hp) : Prop := ∀ H, Ex G H → ∀ Q : VK, te σ H Q
section
variable {α : Type} {A : Ads} {K : PySem.W.Frag} {σ : L2.St} {G G' H : Hp} {ta tb te tx tl : TE} {t u : TT} {x y z v : V} {D : Ends} {tu tw tz ts : TS} {g : TG} {Q : VK} {E : XK} {R : Hp → V → Hp → α → Prop} {r : Except Err α} {sp : Sp}
theorem out_err {x : Err} (h : r = .error x) (k : ∀ H', Ex H H' → E (.ref (A.of x)) none H') : Out A H Q E R r := by subst h; exact k
theorem out_ok {a : α} (h : r = .ok a) (k : ∀ v H', Ex H H' → R H v H' a → Q v H') : Out A H Q E R r := by subst h; exact k
theorem ef_call {E : L2.St → XK} {tA : TA} {vs : List V} (h : EvA tA σ G vs) (hs : ∀ H, Ex G H → ∀ Q, sp vs H Q (E σ)) : EvF (tCallS sp E tA) σ G := fun H e Q => h H e _ fun H1 e1 => hs H1 (e.trans e1) Q
theorem go_asgF (h : EvF te σ G) : Go (tSeq (tAsg te g) tz) D σ G := fun H e => h H e _
theorem go_dropF (h : EvF te σ G) : Go (tSeq (tDrop te) tz) D σ G := fun H e => h H e _
theorem go_retF (h : EvF te σ G) : Go (tSeq (tRet te) tz) D σ G := fun H e => h H e _
theorem ef_op1 {r : R2} (h : EvF ta σ G) : EvF (tOp r ta tb) σ G := fun H e _ => h H e _
theorem ev_chI {p q : Int → Int → Bool} {i j k : Int} (ha : Ev ta σ G (.int i)) (hb : Ev tb σ G (.int j)) (hc : Ev te σ G (.int k)) : Ev (tChain (rI0 fun i j => .bl (p i j)) (rI0 fun i j => .bl (q i j)) ta tb te) σ G (.bl (p i j && q j k)) :=
  ev_chain (a := p i j) ha hb rv_I0 (fun _ => hc) (fun h => by rw [h, Bool.true_and]; exact rv_I0) (fun h => by rw [h, Bool.false_and])
end

/-! ### the library's rules, their readings by names -/
section
variable {X : Cx}
def rLenZ : List V → Hp → VK → Prop := fun xs H Q => ∃ z : Str, xs = [.str z] ∧ z.length ≤ sizeLine ∧ Q (.int z.length) H
def rTupS (K : PySem.W.Frag) : List V → Hp → VK → Prop := fun xs H Q => ∃ p ys, xs = [.ref p] ∧ ((SqL K H p ys ∧ ∀ l, H l = none → Q (.ref l) (upd H l (.tup ys))) ∨ (SqT K H p ys ∧ Q (.ref p) H))
def rMin2 : List V → Hp → VK → Prop := fun xs H Q => ∃ i j, xs = [.int i, .int j] ∧ Q (.int (if j < i then j else i)) H
def rInt1 : List V → Hp → VK → Prop := fun xs H Q => (∃ i, xs = [.int i] ∧ Q (.int i) H) ∨ ∃ k, xs = [.bl k] ∧ Q (.int (if k then 1 else 0)) H
def rStrI : List V → Hp → VK → Prop := fun xs H Q => ∃ i, xs = [.int i] ∧ i.natAbs.log2 < 1920 ∧ Q (.str (toString i)) H
def rIntZ : List V → Hp → VK → Prop := fun xs H Q => ∃ a n, xs = [.str a] ∧ PySem.intText? a = some n ∧ a.length ≤ 640 ∧ Q (.int n) H
def rAddZ : R2 := fun x y H Q => ∃ i j, x = .str i ∧ y = .str j ∧ i.length + j.length ≤ sizeLine ∧ Q (.str (i ++ j)) H
theorem call_lenS : CallR X (.builtin "len") (rLenS X.K) := call_len_seq
theorem call_lenZ : CallR X (.builtin "len") rLenZ := call_len_str
theorem call_listS : CallR X (.type "list") (rListS X.K) := call_list_of
theorem call_tupS : CallR X (.type "tuple") (rTupS X.K) := call_tuple_of
theorem call_mx2 (hc : X.calm = true) : CallR X (.builtin "max") rMax2 := call_max2 hc
theorem call_mn2 (hc : X.calm = true) : CallR X (.builtin "min") rMin2 := call_min2 hc
theorem call_intB : CallR X (.type "int") rInt1 := call_int1
theorem call_strI : CallR X (.type "str") rStrI := call_str_int
theorem call_intZ : CallR X (.type "int") rIntZ := call_int_str
theorem op_addZ : OpR X (binaryOp .Add) rAddZ := op_add_str
def tTrue (K : PySem.W.Frag) (ta : TE) : TT := fun σ H Q => ta σ H fun x H' => ∃ k, TruV K x H' k ∧ Q k H'
theorem pt_tru {a : Expr} {ta : TE} (ha : PE X a ta) (he : ∀ whole, isTrue a X.env whole = (do let v ← whole; standAt a.pos; holding [v] (truthy v)) := by intro _; rfl) : PT X a (tTrue X.K ta) := pt_truth ha he
end

/-! ### == of data -/
mutual
theorem eqv_self : ∀ d : PyData, d.canLay0 = true → PyData.eqv d d = true
  | .none, _ => by simp [PyData.eqv]
  | .bool b, _ => by simp [PyData.eqv]
  | .int i, _ => by simp [PyData.eqv]
  | .str x, _ => by simp [PyData.eqv]
  | .list ds, h => by
    rw [PyData.eqv]
    exact eqvAll_self ds (by rw [PyData.canLay0] at h; exact h)
  | .tuple ds, h => by
    rw [PyData.eqv]
    exact eqvAll_self ds (by rw [PyData.canLay0] at h; exact h)
  | .dict _, h => by rw [PyData.canLay0] at h; cases h
theorem eqvAll_self : ∀ ds : List PyData, PyData.canLayAll0 ds = true → PyData.eqvAll ds ds = true
  | [], _ => by simp [PyData.eqvAll]
  | d :: ds, h => by
    rw [PyData.canLayAll0, Bool.and_eq_true] at h
    rw [PyData.eqvAll, eqv_self d h.1, eqvAll_self ds h.2]; rfl
end
mutual
theorem dp_mono {K : PySem.W.Frag} {H H' : Hp} (e : Ex H H') : ∀ (d : PyData) (v : V), Dp K H v d → Dp K H' v d
  | .none, _, h => by cases h; exact .non
  | .bool b, _, h => by cases h; exact .bl b
  | .int i, _, h => by cases h; exact .int i
  | .str x, _, h => by cases h; exact .str x
  | .list ds, _, h => by
    cases h with
    | lst hs ha => exact .lst (ex_l e hs) (dp_monoAll e ds _ ha)
  | .tuple ds, _, h => by
    cases h with
    | tup hs ha => exact .tup (ex_t e hs) (dp_monoAll e ds _ ha)
  | .dict _, _, h => by cases h
theorem dp_monoAll {K : PySem.W.Frag} {H H' : Hp} (e : Ex H H') : ∀ (ds : List PyData) (vs : List V), DpAll K H vs ds → DpAll K H' vs ds
  | [], _, h => by cases h; exact .nil
  | d :: ds, _, h => by
    cases h with
    | cons a b => exact .cons (dp_mono e d _ a) (dp_monoAll e ds _ b)
end
theorem dpAll_map {K : PySem.W.Frag} {H : Hp} {α : Type} (f : α → V) (g : α → PyData) : ∀ as : List α, (∀ a ∈ as, Dp K H (f a) (g a)) → DpAll K H (as.map f) (as.map g)
  | [], _ => .nil
  | a :: as, h => .cons (h a List.mem_cons_self) (dpAll_map f g as fun b hb => h b (List.mem_cons_of_mem _ hb))
theorem dp_bools {K : PySem.W.Frag} {H : Hp} {a : Addr} {bs : List Bool} (h : SqL K H a (bs.map V.bl)) : Dp K H (.ref a) (.list (bs.map .bool)) := .lst h (dpAll_map _ _ bs fun b _ => .bl b)
theorem dp_ints {K : PySem.W.Frag} {H : Hp} {a : Addr} {ns : List Int} (h : SqL K H a (ns.map V.int)) : Dp K H (.ref a) (.list (ns.map .int)) := .lst h (dpAll_map _ _ ns fun b _ => .int b)
theorem canLayAll_map {α : Type} (f : α → PyData) : ∀ as : List α, (∀ a ∈ as, (f a).canLay0 = true) → PyData.canLayAll0 (as.map f) = true
  | [], _ => by simp [PyData.canLayAll0]
  | a :: as, h => by
    rw [List.map_cons, PyData.canLayAll0, h a List.mem_cons_self, canLayAll_map f as fun b hb => h b (List.mem_cons_of_mem _ hb)]; rfl
theorem depthAll_map {α : Type} (f : α → PyData) (n : Nat) : ∀ as : List α, (∀ a ∈ as, (f a).depth ≤ n) → PyData.depthAll (as.map f) ≤ n
  | [], _ => by simp [PyData.depthAll]
  | a :: as, h => by
    rw [List.map_cons, PyData.depthAll]
    exact Nat.max_le.mpr ⟨h a List.mem_cons_self, depthAll_map f n as fun b hb => h b (List.mem_cons_of_mem _ hb)⟩
theorem shaped_bools (bs : List Bool) : SeqAt.shaped (.list (bs.map .bool)) = true := by
  unfold SeqAt.shaped
  rw [PyData.canLay0, PyData.depth, canLayAll_map _ bs fun _ _ => by simp [PyData.canLay0]]
  have := depthAll_map PyData.bool 0 bs fun _ _ => by simp [PyData.depth]
  simp; omega
theorem shaped_ints (ns : List Int) : SeqAt.shaped (.list (ns.map .int)) = true := by
  unfold SeqAt.shaped
  rw [PyData.canLay0, PyData.depth, canLayAll_map _ ns fun _ _ => by simp [PyData.canLay0]]
  have := depthAll_map PyData.int 0 ns fun _ _ => by simp [PyData.depth]
  simp; omega
section
variable {K : PySem.W.Frag} {σ : L2.St} {G : Hp} {x y : V} {d : PyData}
theorem rv_eqD (hx : Dp K G x d) (hy : Dp K G y d) (hs : SeqAt.shaped d = true) : RV (rEqD K) x y G (.bl true) := fun H e Q q =>
  ⟨d, d, dp_mono e d x hx, dp_mono e d y hy, hs, hs, by rw [eqv_self d (SeqAt.canLay_of_shaped hs)]; exact q H (Ex.refl H)⟩
theorem rv_neD (hx : Dp K G x d) (hy : Dp K G y d) (hs : SeqAt.shaped d = true) : RV (rNeD K) x y G (.bl false) := fun H e Q q =>
  ⟨d, d, dp_mono e d x hx, dp_mono e d y hy, hs, hs, by rw [eqv_self d (SeqAt.canLay_of_shaped hs)]; exact q H (Ex.refl H)⟩
end
/-! ### isinstance -/
section
variable {K : PySem.W.Frag} {σ : L2.St} {G : Hp} {ta tb : TE} {x c : V} {t u : Value} {b : Bool}
theorem TyOf.mono {H H' : Hp} (e : Ex H H') (h : TyOf K H x t) : TyOf K H' x t := by
  cases h with
  | non => exact .non
  | bl b => exact .bl b
  | int i => exact .int i
  | str s => exact .str s
  | flt f => exact .flt f
  | lst h => exact .lst (e _ _ h)
  | frz h => exact .frz (e _ _ h)
  | tup h => exact .tup (e _ _ h)
  | dK h => exact .dK (e _ _ h)
  | dT h => exact .dT (e _ _ h)
  | ins h => exact .ins (e _ _ h) (by assumption) (by assumption) (by assumption) (by assumption) (by assumption)
end

section
variable {K : PySem.W.Frag} {σ : L2.St} {G : Hp} {ta tb te : TE} {x c v : V} {t u : Value} {b : Bool}
theorem tyX_mono {H H' : Hp} (e : Ex H H') (h : TyX K H x t) : TyX K H' x t := by
  cases h with
  | base h => exact .base (TyOf.mono e h)
  | byt b => exact .byt b
  | set h => exact .set (e _ _ h)
  | kList h c => exact .kList h c
  | kTuple h c => exact .kTuple h c
  | kDict h c => exact .kDict h c
  | fTuple h => exact .fTuple (e _ _ h)
  | fDict h => exact .fDict (e _ _ h)
theorem ev_isi (ha : Ev ta σ G x) (hc : Ev tb σ G c) (hk : ClsV c u) (hx : TyX K G x t) (e : PySem.W.kitOne K t u = some b) : Ev (tCB (rIsi K) (tCons ta (tCons tb tNil))) σ G (.bl b) := fun H e1 Q q =>
  ha H e1 _ fun H1 e2 => hc H1 (e1.trans e2) _ fun H2 e3 => ⟨x, c, t, u, b, rfl, hk, tyX_mono ((e1.trans e2).trans e3) hx, e, q H2 (e2.trans e3)⟩
/-- [v] * k -/
theorem el_rep {k : Int} (ha : EvL ta σ G [v]) (hb : Ev tb σ G (.int k)) (h0 : -(2 ^ 63) ≤ k) (h1 : k ≤ 100000) : EvL (tOp rRep ta tb) σ G (List.replicate k.toNat v) := fun H e Q q =>
  ha H e _ fun p H1 hp e1 h => hb H1 (e.trans e1) _ fun H2 e2 => ⟨p, k, [v], rfl, rfl, e2 p _ h, h0, by omega, sz_of (by simp; omega), fun l hl => by
    have e3 : (List.replicate k.toNat [v]).flatten = List.replicate k.toNat v := by
      induction k.toNat with
      | zero => rfl
      | succ n ih => rw [List.replicate_succ, List.flatten_cons, ih]; rfl
    rw [e3]
    exact q l _ (fresh_back (e1.trans e2) hl) ((e1.trans e2).trans (Ex.new hl)) upd_same⟩
theorem el_litl {tA : TA} {vs : List V} (h : EvA tA σ G vs) (hl : vs.length ≤ 100000) : EvL (tLst tA) σ G vs := el_lst h hl
end

/-! ### a word between two statements -/
section
variable {K : PySem.W.Frag} {σ : L2.St} {G : Hp} {ta tb te : TE} {t : TT} {v : V} {D : Ends} {tu tw tz ts : TS}
theorem go_cut (M : L2.St → Hp → Prop) (h : Go ts { D with nx := Kn M } σ G) (k : ∀ σ' G', M σ' G' → Go tz D σ' G') : Go (tCut ts tz) D σ G := fun H e =>
  ⟨Kn M, h H e, fun σ' H' ⟨G', e', m⟩ => k σ' G' m H' e'⟩
theorem go_ifs {b : Bool} (h : EvT t σ G b) (h1 : b = true → Go tu D σ G) (h2 : b = false → Go tw D σ G) : Go (tIfS t tu tw) D σ G := fun H e =>
  h H e _ fun H1 e1 => by
    cases b with
    | true =>
      show tu D σ H1
      exact h1 rfl H1 (e.trans e1)
    | false =>
      show tw D σ H1
      exact h2 rfl H1 (e.trans e1)
theorem ev_ixLit {xs : List V} {i : Int} (ha : EvL ta σ G xs) (hb : Ev tb σ G (.int i)) (h : atI xs i = some v) : Ev (tOp (rIxL K) ta tb) σ G v :=
  ev_opL1 ha (fun _ e => hb.mono e) fun p H1 hp e => rv_ixL (sq_of hp) h
end

/-! ### what the top has left -/
structure DefAt (K : PySem.W.Frag) (mg : Str → Option Value) (x qual : Str) (st : Stmt) (ps : List Str) : Prop where
  ex : ∃ (f : Addr) (fd : FuncData), Fun K x qual st f fd ∧ mg x = some (.ref f) ∧ Binds K fd ps [] ∧ ∀ (s : Shared) (us : List Value), us.length = ps.length → BindsTo s fd ⟨us, []⟩ (ps.zip us)
theorem def_at {K : PySem.W.Frag} {mg : Str → Option Value} {h : Heap} {x qual : Str} {st : Stmt} {ps : List Str} {f : Addr} {oc : Value} {od an : Option Addr} {osl : Array (Option Value)} {kV doc pm cdv ct : Value} (X : K.In h) (G : h.Ns mainGlobals mg)
    (a : PySem.W.nsIn K mainGlobals x = some (some (.ref f))) (l : K.lookup f = some ⟨oc, od, .func (PySem.W.fnOf x qual (defArgs st) (defBody st) (defScope st) .none kV doc pm an cdv ct), osl⟩) (c : PySem.W.codeIn K cdv qual = true) (k : PySem.W.keepIn K (.ref f) = true)
    (b : ∀ (kV doc pm : Value) (an : Option Addr) (cdv ct : Value) (us : List Value), us.length = ps.length → bindArgs (PySem.W.fnOf x qual (defArgs st) (defBody st) (defScope st) .none kV doc pm an cdv ct) ⟨us, []⟩ = pure (ps.zip us)) : DefAt K mg x qual st ps :=
  ⟨f, _, fun_mk l c k, PySem.W.mg_of X G a, (fun_mk l c k).binds b, fun _ us hl => .of_eq (b _ _ _ _ _ _ us hl)⟩
theorem cal_of {P : Program} {w : World} {K : PySem.W.Frag} {mg : Str → Option Value} {base : Heap} {k : Nat} {x qual : Str} {st : Stmt} {ps : List Str} {sp : Sp} (d : DefAt K mg x qual st ps)
    (h : ∀ {f : Addr} {fd : FuncData}, Fun K x qual st f fd → FnOk P w K mg base (L2.CX P w) k f fd ps sp) : CalX P w K mg base k x sp := by
  obtain ⟨f, fd, F, hm, hb, _⟩ := d.ex
  exact ⟨f, fd, ps, h F, hm, F.kp, hb⟩
theorem law_of {P : Program} {w : World} {K : PySem.W.Frag} {mg : Str → Option Value} {k : Nat} {x p : Str} {st : Stmt} {sp : Sp} {fa : Addr} (d : DefAt K mg x x st [p]) (hfa : mg x = some (.ref fa))
    (h : ∀ (base : Heap) {f : Addr} {fd : FuncData}, Fun K x x st f fd → FnOk P w K mg base (L2.CX P w) k f fd [p] sp) :
    ∃ fd : FuncData, (∀ (s : Shared) (u : Value), BindsTo s fd ⟨[u], []⟩ [(p, u)]) ∧ ∀ base : Heap, K.In base → base.Ns mainGlobals mg → FnOk P w K mg base (L2.CX P w) k fa fd [p] sp := by
  obtain ⟨f, fd, F, hm, _, hb⟩ := d.ex
  have e := hm.symm.trans hfa
  cases e
  exact ⟨fd, fun s u => hb s [u] rfl, fun base _ _ => h base F⟩
def leastEs (P : Params) (a0 b0 a1 b1 a2 b2 a3 b3 a4 b4 a5 b5 a6 b6 a7 b7 a8 b8 : Tok) : List DictEntry := [{ hash := PyData.keyHash P "yes", key := .str "yes" a0, val := .int 0 b0 }, { hash := PyData.keyHash P "no", key := .str "no" a1, val := .int 0 b1 }, { hash := PyData.keyHash P "keep", key := .str "keep" a2, val := .int 1 b2 }, { hash := PyData.keyHash P "not", key := .str "not" a3, val := .int 1 b3 }, { hash := PyData.keyHash P "both", key := .str "both" a4, val := .int 2 b4 }, { hash := PyData.keyHash P "either", key := .str "either" a5, val := .int 2 b5 }, { hash := PyData.keyHash P "unlike", key := .str "unlike" a6, val := .int 2 b6 }, { hash := PyData.keyHash P "pick", key := .str "pick" a7, val := .int 3 b7 }, { hash := PyData.keyHash P "most", key := .str "most" a8, val := .int 3 b8 }]
theorem isStr_dec (a z : Str) (t : Tok) : (Value.str a t).isStr z = decide (z = a) := by
  show (a == z) = decide (z = a)
  rw [Bool.eq_iff_iff]
  simp only [decide_eq_true_eq, beq_iff_eq]
  exact ⟨fun h => h.symm, fun h => h.symm⟩
theorem least_at {K : PySem.W.Frag} {w : World} {d : Addr} {a0 b0 a1 b1 a2 b2 a3 b3 a4 b4 a5 b5 a6 b6 a7 b7 a8 b8 : Tok}
    (hl : K.lookup d = some { cls := .type "dict", data := .dict #[{ hash := PyData.keyHash w.params "yes", key := .str "yes" a0, val := .int 0 b0 }, { hash := PyData.keyHash w.params "no", key := .str "no" a1, val := .int 0 b1 }, { hash := PyData.keyHash w.params "keep", key := .str "keep" a2, val := .int 1 b2 }, { hash := PyData.keyHash w.params "not", key := .str "not" a3, val := .int 1 b3 }, { hash := PyData.keyHash w.params "both", key := .str "both" a4, val := .int 2 b4 }, { hash := PyData.keyHash w.params "either", key := .str "either" a5, val := .int 2 b5 }, { hash := PyData.keyHash w.params "unlike", key := .str "unlike" a6, val := .int 2 b6 }, { hash := PyData.keyHash w.params "pick", key := .str "pick" a7, val := .int 3 b7 }, { hash := PyData.keyHash w.params "most", key := .str "most" a8, val := .int 3 b8 }] 9 }) (low : (d == sysModules) = false) : LeastAt K w d := by
  have hn : ∀ z, PySem.W.nsIn K d z = (match List.find? (fun x : DictEntry => x.key.isStr z) (leastEs w.params a0 b0 a1 b1 a2 b2 a3 b3 a4 b4 a5 b5 a6 b6 a7 b7 a8 b8) with
    | some e => some (some e.val)
    | none => some none) := fun z => by
    unfold PySem.W.nsIn
    rw [show List.lookup d K = some _ from hl]
    show (match List.find? (fun x : DictEntry => x.key.isStr z) (leastEs w.params a0 b0 a1 b1 a2 b2 a3 b3 a4 b4 a5 b5 a6 b6 a7 b7 a8 b8) with | some e => some (some e.val) | none => if (leastEs w.params a0 b0 a1 b1 a2 b2 a3 b3 a4 b4 a5 b5 a6 b6 a7 b7 a8 b8).any (fun x => x.refKey) = true then none else some none) = _
    have hr : (leastEs w.params a0 b0 a1 b1 a2 b2 a3 b3 a4 b4 a5 b5 a6 b6 a7 b7 a8 b8).any (fun x => x.refKey) = false := rfl
    rw [hr]
    rfl
  refine ⟨⟨_, 9, hl, ?_, low⟩, fun z hz => ?_, fun z i hz => ?_⟩
  · exact ⟨⟨_, _, rfl, rfl⟩, ⟨_, _, rfl, rfl⟩, ⟨_, _, rfl, rfl⟩, ⟨_, _, rfl, rfl⟩, ⟨_, _, rfl, rfl⟩, ⟨_, _, rfl, rfl⟩, ⟨_, _, rfl, rfl⟩, ⟨_, _, rfl, rfl⟩, ⟨_, _, rfl, rfl⟩, trivial⟩
  · rw [hn z]
    unfold least at hz
    unfold leastEs
    simp only [List.find?_cons, isStr_dec]
    repeat' split at hz
    all_goals first | (cases hz; done) | (simp [*])
  · rw [hn z]
    unfold least at hz
    unfold leastEs
    simp only [List.find?_cons, isStr_dec]
    repeat' split at hz
    all_goals first | (cases hz; done) | (cases hz; subst_vars; exact ⟨_, rfl⟩)
/-! ### loops -/
section
variable {K : PySem.W.Frag} {σ : L2.St} {G B : Hp} {ta tb te tl : TE} {t : TT} {v : V} {D : Ends} {tu tw tz ts : TS} {j : Nat}
def Kb (B : Hp) (P : L2.St → Hp → Prop) : L2.St → Hp → Prop := Kn fun σ G => Ex B G ∧ P σ G
theorem go_kb {P : L2.St → Hp → Prop} {rt : VK} {bk ct : L2.St → Hp → Prop} (hB : Ex B G) (h : P σ G) : Go tNext ⟨Kb B P, rt, bk, ct⟩ σ G := fun _ e => ⟨G, e, hB, h⟩
theorem go_forL {a : Addr} {xs : List V} (B : Hp) (h : Ev tl σ G (.ref a)) (hB : Ex B G) (hx : SqL K B a xs) (Pv : Nat → L2.St → Hp → Prop) (h0 : Pv 0 σ G)
    (hs : ∀ i x σ' G', xs[i]? = some x → Ex B G' → Pv i σ' G' → Go tu { D with nx := Kb B (Pv (i + 1)), ct := Kb B (Pv (i + 1)), bk := tz D } (σ'.set j (some x)) G')
    (hd : ∀ σ' G', Ex B G' → Pv xs.length σ' G' → Go tz D σ' G') : Go (tSeq (tFor (iList K tl) (gName j) tu) tz) D σ G := fun H e =>
  h H e _ fun H1 e1 => ⟨a, rfl, ⟨xs, ex_l ((hB.trans e).trans e1) hx⟩, for_list (fun i => Kb B (Pv i)) ⟨G, e.trans e1, hB, h0⟩ (fun i σ' H' _ ⟨G', e', b, _⟩ => ex_l (b.trans e') hx)
    (fun i x σ' H' hi ⟨G', e', b, p⟩ => hs i x σ' G' hi b p H' e') (fun σ' H' ⟨G', e', b, p⟩ => hd σ' G' b p H' e')⟩
theorem go_forT {a : Addr} {xs : List V} (B : Hp) (h : Ev tl σ G (.ref a)) (hB : Ex B G) (hx : SqT K B a xs) (Pv : Nat → L2.St → Hp → Prop) (h0 : Pv 0 σ G)
    (hs : ∀ i x σ' G', xs[i]? = some x → Ex B G' → Pv i σ' G' → Go tu { D with nx := Kb B (Pv (i + 1)), ct := Kb B (Pv (i + 1)), bk := tz D } (σ'.set j (some x)) G')
    (hd : ∀ σ' G', Ex B G' → Pv xs.length σ' G' → Go tz D σ' G') : Go (tSeq (tFor (iTup K tl) (gName j) tu) tz) D σ G := fun H e =>
  h H e _ fun H1 e1 => ⟨a, rfl, ⟨xs, ex_t ((hB.trans e).trans e1) hx⟩, for_tup (fun i => Kb B (Pv i)) ⟨G, e.trans e1, hB, h0⟩ (fun i σ' H' _ ⟨G', e', b, _⟩ => ex_t (b.trans e') hx)
    (fun i x σ' H' hi ⟨G', e', b, p⟩ => hs i x σ' G' hi b p H' e') (fun σ' H' ⟨G', e', b, p⟩ => hd σ' G' b p H' e')⟩
/-- over a list that is made on the way -/
theorem go_forNL {xs : List V} (h : EvL tl σ G xs) (Pv : Addr → Nat → L2.St → Hp → Prop) (h0 : ∀ p, G p = none → Pv p 0 σ (upd G p (.lst xs)))
    (hs : ∀ p i x σ' G', G p = none → xs[i]? = some x → Ex (upd G p (.lst xs)) G' → Pv p i σ' G' → Go tu { D with nx := Kb (upd G p (.lst xs)) (Pv p (i + 1)), ct := Kb (upd G p (.lst xs)) (Pv p (i + 1)), bk := tz D } (σ'.set j (some x)) G')
    (hd : ∀ p σ' G', G p = none → Ex (upd G p (.lst xs)) G' → Pv p xs.length σ' G' → Go tz D σ' G') : Go (tSeq (tFor (iList K tl) (gName j) tu) tz) D σ G := fun H e =>
  h H e _ fun p H1 hp e1 h1 => ⟨p, rfl, ⟨xs, sq_of h1⟩, for_list (fun i => Kb (upd G p (.lst xs)) (Pv p i)) ⟨_, (e.trans e1).know h1 (e.none hp), Ex.refl _, h0 p (e.none hp)⟩ (fun i σ' H' _ ⟨G', e', b, _⟩ => sq_of (e' _ _ (b _ _ upd_same)))
    (fun i x σ' H' hi ⟨G', e', b, q⟩ => hs p i x σ' G' (e.none hp) hi b q H' e') (fun σ' H' ⟨G', e', b, q⟩ => hd p σ' G' (e.none hp) b q H' e')⟩
theorem go_forR1 {tA : TA} {n : Int} (B : Hp) (h : EvA tA σ G [.int n]) (hn : n ≤ 100000 ∧ -100000 ≤ n) (hB : Ex B G) (Pv : Int → L2.St → Hp → Prop) (h0 : Pv 0 σ G)
    (hs : ∀ (k : Int) σ' G', 0 ≤ k → k < n → Ex B G' → Pv k σ' G' → Go tu { D with nx := Kb B (Pv (k + 1)), ct := Kb B (Pv (k + 1)), bk := tz D } (σ'.set j (some (.int k))) G')
    (hd : ∀ σ' G', Ex B G' → Pv (n.toNat : Int) σ' G' → Go tz D σ' G') : Go (tSeq (tFor (iRng1 tA) (gName j) tu) tz) D σ G := fun H e =>
  h H e _ fun H1 e1 => ⟨n, rfl, by omega, by omega, for_range (lo := 0) (n := n.toNat) (fun i : Nat => Kb B (Pv (i : Int))) ⟨G, e.trans e1, hB, h0⟩ (fun i σ' H' hi ⟨G', e', b, p⟩ => by
    have e0 : (0 : Int) + (i : Int) = (i : Int) := Int.zero_add _
    show tu _ (σ'.set j (some (.int ((0 : Int) + (i : Int))))) H'
    rw [e0]
    have q := hs (i : Int) σ' G' (by omega) (by omega) b p H' e'
    exact q) (fun σ' H' ⟨G', e', b, p⟩ => hd σ' G' b p H' e')⟩
theorem go_forR2 {tA : TA} {lo n : Int} (B : Hp) (h : EvA tA σ G [.int lo, .int n]) (hn : -100000 ≤ lo ∧ lo ≤ 100000 ∧ n ≤ 100000 ∧ -100000 ≤ n) (hB : Ex B G) (Pv : Int → L2.St → Hp → Prop) (h0 : Pv lo σ G)
    (hs : ∀ (k : Int) σ' G', lo ≤ k → k < n → Ex B G' → Pv k σ' G' → Go tu { D with nx := Kb B (Pv (k + 1)), ct := Kb B (Pv (k + 1)), bk := tz D } (σ'.set j (some (.int k))) G')
    (hd : ∀ σ' G', Ex B G' → Pv (lo + ((n - lo).toNat : Int)) σ' G' → Go tz D σ' G') : Go (tSeq (tFor (iRng2 tA) (gName j) tu) tz) D σ G := fun H e =>
  h H e _ fun H1 e1 => ⟨lo, n, rfl, ⟨by omega, by omega, by omega, by omega⟩, for_range (lo := lo) (n := (n - lo).toNat) (fun i : Nat => Kb B (Pv (lo + (i : Int)))) ⟨G, e.trans e1, hB, by show Pv (lo + ((0 : Nat) : Int)) σ G; rw [show lo + ((0 : Nat) : Int) = lo by omega]; exact h0⟩ (fun i σ' H' hi ⟨G', e', b, p⟩ => by
    have e0 : lo + (i : Int) + 1 = lo + ((i + 1 : Nat) : Int) := by omega
    have q := hs (lo + (i : Int)) σ' G' (by omega) (by omega) b p H' e'
    rw [e0] at q
    exact q) (fun σ' H' ⟨G', e', b, p⟩ => hd σ' G' b p H' e')⟩
/-- while: a word that falls -/
theorem go_while (W : Nat → L2.St → Hp → Prop) (m0 : Nat) (h0 : W m0 σ G)
    (hs : ∀ m σ' G', W m σ' G' → ∃ b, EvT t σ' G' b ∧ (b = true → Go tu { D with nx := Kn (fun σ2 G2 => ∃ m', m' < m ∧ W m' σ2 G2), ct := Kn (fun σ2 G2 => ∃ m', m' < m ∧ W m' σ2 G2), bk := tz D } σ' G') ∧ (b = false → Go tz D σ' G')) : Go (tSeq (tWhile t tu) tz) D σ G := fun H e =>
  ⟨fun m => Kn (W m), ⟨m0, G, e, h0⟩, fun m σ' H' ⟨G', e', w⟩ => by
    obtain ⟨b, hb, h1, h2⟩ := hs m σ' G' w
    refine hb H' e' _ fun H1 e1 => ?_
    cases b with
    | true => exact ⟨Kn (fun σ2 G2 => ∃ m', m' < m ∧ W m' σ2 G2), fun σ2 H2 ⟨G2, e2, m', hm, w2⟩ => ⟨m', hm, G2, e2, w2⟩, h1 rfl H1 (e'.trans e1)⟩
    | false => exact h2 rfl H1 (e'.trans e1)⟩
end
section
variable {K : PySem.W.Frag} {σ : L2.St} {G B : Hp} {ta tb te tl : TE} {t : TT} {v : V} {D : Ends} {tu tw tz ts : TS} {j p q : Nat}
/-- for place, x in enumerate(xs) -/
theorem go_forE {a : Addr} {xs : List V} {tA : TA} (B : Hp) (h : EvA tA σ G [.ref a]) (hB : Ex B G) (hx : SqL K B a xs) (Pv : Nat → L2.St → Hp → Prop) (h0 : Pv 0 σ G)
    (hs : ∀ i x σ' G', xs[i]? = some x → Ex B G' → Pv i σ' G' → Go tu { D with nx := Kb B (Pv (i + 1)), ct := Kb B (Pv (i + 1)), bk := tz D } ((σ'.set p (some (.int (i : Int)))).set q (some x)) G')
    (hd : ∀ σ' G', Ex B G' → Pv xs.length σ' G' → Go tz D σ' G') : Go (tSeq (tFor (iEnum K tA) (gTup K 2 (gCons (gName p) (gCons (gName q) gNil))) tu) tz) D σ G := fun H e =>
  h H e _ fun H1 e1 => ⟨a, xs, rfl, ex_l ((hB.trans e).trans e1) hx, fun i m σ H => m = xs.length - i ∧ i ≤ xs.length ∧ Kb B (Pv i) σ H, ⟨xs.length, by simp, Nat.zero_le _, G, e.trans e1, hB, h0⟩, by
    rintro i m σ' H' ⟨rfl, hi, G', e', b, pv⟩
    have hq : SqL K H' a xs := ex_l (b.trans e') hx
    by_cases hlt : i < xs.length
    · refine .inr ⟨⟨xs, xs[i], hq, by simp [hlt]⟩, Kb B (Pv (i + 1)), fun σ2 H2 p' => ⟨xs.length - (i + 1), by omega, rfl, hlt, p'⟩, fun x H2 y => ?_⟩
      obtain ⟨T, x', rfl, hT, rfl, hf⟩ := y
      have e2 : Ex G' (upd H' T (.tup [.int (i : Nat), x'])) := e'.trans (Ex.new hT)
      exact ⟨T, [.int (i : Nat), x'], rfl, st_of upd_same, rfl, _, _, rfl, _, _, rfl, rfl, hs i x' σ' G' (hf xs hq) b pv _ e2⟩
    · have ei : i = xs.length := by omega
      subst ei
      exact .inl ⟨⟨xs, hq, Nat.le_refl _⟩, hd σ' G' b pv H' e'⟩⟩
end
section
variable {K : PySem.W.Frag} {σ : L2.St} {G G' H : Hp} {ta tb te tx tl : TE} {t u : TT} {x y z v : V} {D : Ends} {tu tw tz ts : TS} {g : TG} {j : Nat} {vs : List Nat}
theorem el_lcT {a : Addr} {xs : List V} {tl : TE} {j : Nat} {vs : List Nat} (f : Nat → Bool) (v : Nat → V) (h : Ev tl σ H (.ref a)) (hx : SqT K H a xs) (hz : xs.length ≤ 40000) (hw : ∀ x, wipe ((wipe σ vs).set j (some x)) vs = wipe σ vs)
    (ht : ∀ (i : Nat) (x : V) H1, Ex H H1 → xs[i]? = some x → EvT t ((wipe σ vs).set j (some x)) H1 (f i)) (he : ∀ (i : Nat) (x : V) H1, Ex H H1 → xs[i]? = some x → f i = true → Ev te ((wipe σ vs).set j (some x)) H1 (v i)) :
    EvL (tLc (iTup K tl) (gName j) t te vs) σ H (given xs.length f v) := fun H0 e Q q => h H0 e _ fun H1 e1 => ⟨a, rfl, ⟨xs, ex_t (e.trans e1) hx⟩, fun Dl hD =>
  lc_tup (xs := xs) (Cw H1 f v Dl) ⟨hD, Ex.new hD, upd_same⟩ (fun i H' _ p => ex_t ((e.trans e1).trans p.2.1) hx) (fun i x H' hi p => ⟨hw x, cw_turn p (by have := (List.getElem?_eq_some_iff.mp hi).1; omega) (ht i x H1 (e.trans e1) hi) (fun hf => he i x H1 (e.trans e1) hi hf)⟩)
    (fun H' p => q Dl H' (fresh_back e1 p.1) (e1.trans p.2.1) p.2.2)⟩
/-- .. xs a tuple -/
theorem el_lcTF {α : Type} (as : List α) (inj : α → V) (p : α → Bool) (g : α → V) {a : Addr} (h : Ev tl σ G (.ref a)) (hx : SqT K G a (as.map inj)) (hz : as.length ≤ 40000) (hw : ∀ x, wipe ((wipe σ vs).set j (some x)) vs = wipe σ vs)
    (ht : ∀ x, x ∈ as → EvT t ((wipe σ vs).set j (some (inj x))) G (p x)) (he : ∀ x, x ∈ as → p x = true → Ev te ((wipe σ vs).set j (some (inj x))) G (g x)) :
    EvL (tLc (iTup K tl) (gName j) t te vs) σ G ((as.filter p).map g) := by
  cases as with
  | nil =>
    have q := el_lcT (K := K) (σ := σ) (H := G) (t := t) (te := te) (tl := tl) (j := j) (vs := vs) (a := a) (xs := []) (fun _ => true) (fun _ => V.non) h hx (Nat.zero_le _) hw (fun i x H1 _ hi => by simp at hi) (fun i x H1 _ hi => by simp at hi)
    exact q
  | cons d r =>
    have key : given (((d :: r).map inj)).length (fun i => p ((d :: r).getD i d)) (fun i => g ((d :: r).getD i d)) = ((d :: r).filter p).map g := by
      rw [List.length_map, given_all (d :: r) d p g _ (Nat.le_refl _), List.take_length]
    rw [← key]
    have item : ∀ (i : Nat) (x : V), ((d :: r).map inj)[i]? = some x → x = inj ((d :: r).getD i d) ∧ (d :: r).getD i d ∈ d :: r := fun i x hi => by
      rw [List.getElem?_map] at hi
      cases e : (d :: r)[i]? with
      | none => rw [e] at hi; cases hi
      | some y =>
        rw [e] at hi
        have e2 : (d :: r).getD i d = y := by rw [List.getD_eq_getElem?_getD, e]; rfl
        exact ⟨by rw [e2]; exact (Option.some.inj hi).symm, by rw [e2]; exact List.mem_of_getElem? e⟩
    refine el_lcT (K := K) _ _ h hx (by rw [List.length_map]; exact hz) hw (fun i x H1 e1 hi => ?_) (fun i x H1 e1 hi hf => ?_)
    · obtain ⟨rfl, hm⟩ := item i x hi
      exact (ht _ hm).mono e1
    · obtain ⟨rfl, hm⟩ := item i x hi
      exact (he _ hm hf).mono e1
/-- .. xs a tuple -/
theorem el_lcTA {α : Type} (as : List α) (inj : α → V) (g : α → V) {a : Addr} (h : Ev tl σ G (.ref a)) (hx : SqT K G a (as.map inj)) (hz : as.length ≤ 40000) (hw : ∀ x, wipe ((wipe σ vs).set j (some x)) vs = wipe σ vs)
    (he : ∀ x, x ∈ as → Ev te ((wipe σ vs).set j (some (inj x))) G (g x)) : EvL (tLc (iTup K tl) (gName j) tYes te vs) σ G (as.map g) := by
  have q := el_lcTF (K := K) (te := te) as inj (fun _ => true) g h hx hz hw (fun _ _ => et_yes) (fun x hx _ => he x hx)
  have e : as.filter (fun _ => true) = as := List.filter_eq_self.mpr fun _ _ => rfl
  rw [e] at q
  exact q
end
/-! ### the rules that speak of the written part, with it told -/
section
variable {X : Cx} (K : PySem.W.Frag)
theorem ixL (h : X.K = K := by rfl) : IxR X (rIxL K) := h ▸ ix_list
theorem ixT (h : X.K = K := by rfl) : IxR X (rIxT K) := h ▸ ix_tup
theorem c_len (h : X.K = K := by rfl) : CallR X (.builtin "len") (rLenS K) := h ▸ call_lenS
theorem c_list (h : X.K = K := by rfl) : CallR X (.type "list") (rListS K) := h ▸ call_listS
theorem c_tup (h : X.K = K := by rfl) : CallR X (.type "tuple") (rTupS K) := h ▸ call_tupS
theorem c_all (hc : X.calm = true) (h : X.K = K := by rfl) : CallR X (.builtin "all") (rAll K) := h ▸ cr_all hc
theorem c_any (hc : X.calm = true) (h : X.K = K := by rfl) : CallR X (.builtin "any") (rAny K) := h ▸ cr_any hc
theorem c_max (hc : X.calm = true) (h : X.K = K := by rfl) : CallR X (.builtin "max") (rMax K) := h ▸ cr_max hc
theorem c_isi (h : X.K = K := by rfl) : CallR X (.builtin "isinstance") (rIsi K) := h ▸ call_isi
theorem slL (h : X.K = K := by rfl) : L2.SlR X (rSlL K) := h ▸ sl_list
theorem slA (h : X.K = K := by rfl) : L2.SlR X (rSlA K) := h ▸ sl_tupA
theorem o_in (h : X.K = K := by rfl) : OpR X (compareOp .In) (rIn K false) := h ▸ op_in_seq
theorem o_notIn (h : X.K = K := by rfl) : OpR X (compareOp .NotIn) (rIn K true) := h ▸ op_notIn_seq
theorem o_eqD (hu : X.A.units + 64 < cLine) (h : X.K = K := by rfl) : OpR X (compareOp .Eq) (rEqD K) := h ▸ op_eqD hu
theorem o_neD (hu : X.A.units + 64 < cLine) (h : X.K = K := by rfl) : OpR X (compareOp .NotEq) (rNeD K) := h ▸ op_neD hu
theorem o_catA (h : X.K = K := by rfl) : OpR X (binaryOp .Add) (rCatA K) := h ▸ op_catA
theorem o_repT (h : X.K = K := by rfl) : OpR X (binaryOp .Mult) (rRepT K) := h ▸ op_repT
theorem pt_truK {a : Expr} {ta : TE} (ha : PE X a ta) (he : ∀ whole, isTrue a X.env whole = (do let v ← whole; standAt a.pos; holding [v] (truthy v)) := by intro _; rfl) (h : X.K = K := by rfl) : PT X a (tTrue K ta) := h ▸ pt_tru ha he
theorem pi_L {tg l : Expr} {tl : TE} (hl : PE X l tl) (h : X.K = K := by rfl) : PI X tg l (iList K tl) := h ▸ pi_list hl
theorem pi_T {tg l : Expr} {tl : TE} (hl : PE X l tl) (h : X.K = K := by rfl) : PI X tg l (iTup K tl) := h ▸ pi_tup hl
end
section
variable {K : PySem.W.Frag} {σ : L2.St} {G B : Hp} {ta tb te tl : TE} {t : TT} {x v : V} {D : Ends} {tu tw tz ts : TS} {j : Nat} {vs : List Nat}
theorem rv_notN : RV rNotN x .non G (.bl (!decide (x = .non))) := fun H1 _ _ q => ⟨rfl, q H1 (Ex.refl H1)⟩
theorem rv_isN : RV rIsN x .non G (.bl (decide (x = .non))) := fun H1 _ _ q => ⟨rfl, q H1 (Ex.refl H1)⟩
theorem ep_op1 {r : R2} {P R : V → Hp → Prop} (h : EvP ta σ G P) (k : ∀ v G', Ex G G' → P v G' → ∃ y z, Ev tb σ G' y ∧ RV r v y G' z ∧ R z G') : EvP (tOp r ta tb) σ G R := fun H e Q q =>
  h H e _ fun v G1 H1 g1 g2 e1 p => by
    obtain ⟨y, z, hy, hr, hR⟩ := k v G1 g1 p
    exact hy H1 g2 _ fun H2 e2 => hr H2 (g2.trans e2) Q fun H3 e3 => q z G1 H3 g1 ((g2.trans e2).trans e3) ((e1.trans e2).trans e3) hR
/-- arguments one of which raises -/
def EvAF (tA : TA) (σ : L2.St) (G : Hp) : Prop := ∀ H, Ex G H → ∀ Q, tA σ H Q
theorem eaf_hd {tA : TA} (h : EvF te σ G) : EvAF (tCons te tA) σ G := fun H e _ => h H e _
theorem eaf_tl {tA : TA} (h : Ev te σ G v) (h2 : EvAF tA σ G) : EvAF (tCons te tA) σ G := fun H e _ => h H e _ fun H1 e1 => h2 H1 (e.trans e1) _
theorem ef_lcR1 {tA : TA} {g : TG} (h : EvAF tA σ G) : EvF (tLc (iRng1 tA) g t te vs) σ G := fun H e _ => h H e _
theorem ef_callA {sp : Sp} {E : L2.St → XK} {tA : TA} (h : EvAF tA σ G) : EvF (tCallS sp E tA) σ G := fun H e _ => h H e _
theorem ef_cb {r : List V → Hp → VK → Prop} {tA : TA} (h : EvAF tA σ G) : EvF (tCB r tA) σ G := fun H e _ => h H e _
theorem go_forF {tA : TA} {g : TG} (h : EvAF tA σ G) : Go (tSeq (tFor (iRng1 tA) g tu) tz) D σ G := fun H e => h H e _
theorem go_forLF {g : TG} (h : EvF tl σ G) : Go (tSeq (tFor (iList K tl) g tu) tz) D σ G := fun H e => h H e _
end
section
variable {K : PySem.W.Frag} {σ : L2.St} {G B : Hp} {ta tb te tl : TE} {t : TT} {x v : V} {D : Ends} {tu tw tz ts : TS} {j : Nat} {vs : List Nat}
/-- tuple(xs) of a list: a new tuple -/
theorem eu_tupL {p : Addr} {xs : List V} (ha : Ev ta σ G (.ref p)) (h : SqL K G p xs) : EvU (tCB (rTupS K) (tCons ta tNil)) σ G xs := fun H1 e Q q =>
  ha H1 e _ fun H2 e2 => ⟨p, xs, rfl, Or.inl ⟨ex_l (e.trans e2) h, fun l hl => q l _ (fresh_back e2 hl) (e2.trans (Ex.new hl)) upd_same⟩⟩
theorem eu_tupNL {xs : List V} (ha : EvL ta σ G xs) : EvU (tCB (rTupS K) (tCons ta tNil)) σ G xs := fun H1 e Q q =>
  ha H1 e _ fun p H2 hp e2 h2 => ⟨p, xs, rfl, Or.inl ⟨sq_of h2, fun l hl => q l _ (fresh_back e2 hl) (e2.trans (Ex.new hl)) upd_same⟩⟩
/-- xs[lo:hi] of a list, small ends -/
theorem cut_nat {xs : List V} {a b : Nat} (h : a ≤ b) : cutV xs (some (a : Int)) (some (b : Int)) = (xs.drop a).take (b - a) := by
  unfold cutV
  rw [HT.sIx_nat, HT.sIx_nat]
  by_cases c : a ≤ xs.length
  · rw [Nat.min_eq_left c]
    by_cases c2 : b ≤ xs.length
    · rw [Nat.min_eq_left c2]
    · rw [Nat.min_eq_right (by omega), List.take_of_length_le (by rw [List.length_drop]; omega), List.take_of_length_le (by rw [List.length_drop]; omega)]
  · rw [Nat.min_eq_right (by omega), Nat.min_eq_right (by omega), List.drop_of_length_le (Nat.le_refl _), List.drop_of_length_le (by omega)]
    simp
end
theorem ty_list {K : PySem.W.Frag} {H : Hp} {a : Addr} {xs : List V} (h : SqL K H a xs) : TyX K H (.ref a) (.type "list") := by
  rcases h with (h | ⟨o, h⟩) | ⟨o, _, _, h, c, _⟩
  · exact .base (.lst h)
  · exact .base (.frz h)
  · exact .kList h c
theorem ty_tuple {K : PySem.W.Frag} {H : Hp} {a : Addr} {xs : List V} (h : SqT K H a xs) : TyX K H (.ref a) (.type "tuple") := by
  rcases h with (h | ⟨o, h⟩) | ⟨o, _, _, h, c, _⟩
  · exact .base (.tup h)
  · exact .fTuple h
  · exact .kTuple h c
/-! ### max(xs, default=d) of ints -/
def maxOr (d : Int) : List Int → Int
  | [] => d
  | n :: r => r.foldl max n
def rMaxDef (K : PySem.W.Frag) : List V → List V → Hp → VK → Prop := fun xs zs H Q => ∃ (a : Addr) (ns : List Int) (d : Int), xs = [.ref a] ∧ zs = [.int d] ∧ SqL K H a (ns.map V.int) ∧ Q (.int (maxOr d ns)) H
theorem depthAll_ints : ∀ ns : List Int, PyData.depthAll (ns.map PyData.int) = 0
  | [] => by simp [PyData.depthAll]
  | n :: r => by rw [List.map_cons, PyData.depthAll, depthAll_ints r]; simp [PyData.depth]
theorem alike_ints (ns : List Int) : PySem.W.AlikeAll (ns.map PyData.int) := by
  refine ⟨fun x hx y hy => ?_, fun x hx => ?_⟩
  · obtain ⟨i, _, rfl⟩ := List.mem_map.mp hx
    obtain ⟨j, _, rfl⟩ := List.mem_map.mp hy
    rfl
  · obtain ⟨i, _, rfl⟩ := List.mem_map.mp hx
    intro h; cases h
theorem cr_maxDef {X : Cx} (hc : X.calm = true) (hu : X.A.units + 64 < cLine) (K : PySem.W.Frag) (h : X.K = K := by rfl) : CallRK X (.builtin "max") [Str.ofString "default"] (rMaxDef K) := by
  subst h
  intro pins s σ H vs zs us ws Q I r rz h
  obtain ⟨a, ns, d, rfl, rfl, hs, q⟩ := h
  obtain rfl := Vals.ref1 r
  obtain ⟨w1, rfl, e1⟩ := vals1 rz
  obtain ⟨t, rfl⟩ := e1
  obtain ⟨its, rv, hl, _⟩ := I.list hs
  have hi := rv.ints
  refine PySem.W.max_list_default (vs := its.toArray) (I.ok.hd hc) hl.isList (hi.reads _) (alike_ints ns) (by rw [depthAll_ints]; omega) (fun e0 h' tk hk => ?_) (fun y ys i v h' tk bs e0 hv hR hk => ?_)
  · have : ns = [] := by simpa using e0
    subst this
    exact ⟨.int d, H, I.kept hk, ⟨_, rfl⟩, q⟩
  · cases ns with
    | nil => cases e0
    | cons n r =>
      rw [List.map_cons] at e0
      cases e0
      rw [PySem.W.maxD_ints] at hR
      cases hR
      exact ⟨.int (r.foldl max n), H, I.kept hk, ⟨_, rfl⟩, q⟩
section
variable {K : PySem.W.Frag} {σ : L2.St} {G : Hp} {ta tb : TE}
theorem ev_maxDefN {ns : List Int} {d : Int} (h : EvL ta σ G (ns.map V.int)) (h2 : Ev tb σ G (.int d)) : Ev (tCKw (rMaxDef K) (tCons ta tNil) (tCons tb tNil)) σ G (.int (maxOr d ns)) := fun H e Q q =>
  h H e _ fun p H1 hp e1 h1 => h2 H1 (e.trans e1) _ fun H2 e2 => ⟨p, ns, d, rfl, rfl, sq_of (e2 _ _ h1), q H2 (e1.trans e2)⟩
theorem ef_maxDef {r : List V → List V → Hp → VK → Prop} (h : EvF ta σ G) : EvF (tCKw r (tCons ta tNil) (tCons tb tNil)) σ G := fun H e _ => h H e _
end
/-! ### max of a list of ints that is made on the way -/
theorem maxOr_spec {n : Int} : ∀ r : List Int, maxOr 0 (n :: r) ∈ n :: r ∧ ∀ y, y ∈ n :: r → y ≤ maxOr 0 (n :: r) := by
  intro r
  show r.foldl max n ∈ n :: r ∧ ∀ y, y ∈ n :: r → y ≤ r.foldl max n
  induction r generalizing n with
  | nil => exact ⟨List.mem_cons_self, fun y hy => by rw [List.mem_singleton.mp hy]; exact Int.le_refl _⟩
  | cons k r ih =>
    rw [List.foldl_cons]
    obtain ⟨h1, h2⟩ := ih (n := max n k)
    constructor
    · rcases List.mem_cons.mp h1 with h | h
      · by_cases c : n ≤ k
        · rw [h, Int.max_eq_right c]; exact List.mem_cons_of_mem _ List.mem_cons_self
        · rw [h, Int.max_eq_left (by omega)]; exact List.mem_cons_self
      · exact List.mem_cons_of_mem _ (List.mem_cons_of_mem _ h)
    · intro y hy
      have h3 := h2 (max n k) List.mem_cons_self
      have := Int.le_max_left n k
      have := Int.le_max_right n k
      rcases List.mem_cons.mp hy with rfl | hy
      · omega
      · rcases List.mem_cons.mp hy with rfl | hy
        · omega
        · exact h2 y (List.mem_cons_of_mem _ hy)
theorem maxOr_un {ns : List Int} {m d : Int} (hm : m ∈ ns) (hu : ∀ y ∈ ns, y ≤ m) : m = maxOr d ns := by
  cases ns with
  | nil => cases hm
  | cons n r =>
    obtain ⟨h1, h2⟩ := maxOr_spec (n := n) r
    have e : maxOr d (n :: r) = maxOr 0 (n :: r) := rfl
    rw [e]
    have := hu _ h1
    have := h2 _ hm
    omega
theorem ev_maxN {K : PySem.W.Frag} {σ : L2.St} {G : Hp} {ta : TE} {ns : List Int} (h : EvL ta σ G (ns.map V.int)) (h0 : 0 < ns.length) : Ev (tCB (rMax K) (tCons ta tNil)) σ G (.int (maxOr 0 ns)) := fun H e Q q =>
  h H e _ fun p H1 _ e1 h1 => ⟨p, ns, rfl, sq_of h1, h0, fun m hm hu => by rw [maxOr_un (d := 0) hm hu]; exact q H1 e1⟩
section
variable {K : PySem.W.Frag} {σ : L2.St} {G : Hp} {ta tb tl : TE} {x : V} {D : Ends} {tu tz : TS} {j : Nat} {r : R2} {xs : List V}
theorem ef_op2 (h : Ev ta σ G x) (h2 : EvF tb σ G) : EvF (tOp r ta tb) σ G := fun H e _ => h H e _ fun H1 e1 => h2 H1 (e.trans e1) _
theorem ef_opL2 (h : EvL ta σ G xs) (h2 : EvF tb σ G) : EvF (tOp r ta tb) σ G := fun H e _ => h H e _ fun p H1 _ e1 _ => h2 H1 (e.trans e1) _
end
section
variable {K : PySem.W.Frag} {σ : L2.St} {G : Hp} {tl : TE} {x : V} {D : Ends} {tu tz : TS} {j : Nat}
/-- over a list that is made on the way; B: what stays in the body -/
theorem go_forNB {xs : List V} (B : Hp) (h : EvL tl σ G xs) (hB : Ex B G) (Pv : Addr → Nat → L2.St → Hp → Prop) (h0 : ∀ p, G p = none → Pv p 0 σ (upd G p (.lst xs)))
    (hs : ∀ p i x σ' G', G p = none → xs[i]? = some x → Ex (upd B p (.lst xs)) G' → Pv p i σ' G' → Go tu { D with nx := Kb (upd B p (.lst xs)) (Pv p (i + 1)), ct := Kb (upd B p (.lst xs)) (Pv p (i + 1)), bk := tz D } (σ'.set j (some x)) G')
    (hd : ∀ p σ' G', G p = none → Ex (upd B p (.lst xs)) G' → Pv p xs.length σ' G' → Go tz D σ' G') : Go (tSeq (tFor (iList K tl) (gName j) tu) tz) D σ G := fun H e =>
  h H e _ fun p H1 hp e1 h1 => ⟨p, rfl, ⟨xs, sq_of h1⟩, for_list (fun i => Kb (upd B p (.lst xs)) (Pv p i)) ⟨upd G p (.lst xs), (e.trans e1).know h1 (e.none hp), Ex.put hB, h0 p (e.none hp)⟩ (fun i σ' H' _ ⟨G', e', b, _⟩ => sq_of (e' _ _ (b _ _ upd_same)))
    (fun i x σ' H' hi ⟨G', e', b, q⟩ => hs p i x σ' G' (e.none hp) hi b q H' e') (fun σ' H' ⟨G', e', b, q⟩ => hd p σ' G' (e.none hp) b q H' e')⟩
end
section
variable {K : PySem.W.Frag} {σ : L2.St} {G : Hp} {ta : TE} {a : Addr} {xs : List V} {b : Bool}
theorem et_truT (h : Ev ta σ G (.ref a)) (hx : SqT K G a xs) (hb : b = !xs.isEmpty) : EvT (tTrue K ta) σ G b := fun H e Q q =>
  h H e _ fun H1 e1 => ⟨b, .inr (.inl ⟨xs, ex_t (e.trans e1) hx, hb⟩), q H1 e1⟩
theorem et_truL (h : Ev ta σ G (.ref a)) (hx : SqL K G a xs) (hb : b = !xs.isEmpty) : EvT (tTrue K ta) σ G b := fun H e Q q =>
  h H e _ fun H1 e1 => ⟨b, .inl ⟨xs, ex_l (e.trans e1) hx, hb⟩, q H1 e1⟩
end
/-- an if that is the last of its body: it ends as the body ends -/
theorem go_cutN {σ : L2.St} {G : Hp} {D : Ends} {ts : TS} (h : Go ts D σ G) : Go (tCut ts tNext) D σ G := fun H e => ⟨D.nx, h H e, fun _ _ m => m⟩
end Sg

namespace Sg
open PySem L2 Evl

/-! ### the program, plain -/
def wantsM (z : Str) : Except Err (Int × Int) := match least z with
  | none => .error .kind
  | some i => .ok (i, if i = 2 then 9 else i)
/-- what a kind answers of its sources' values -/
def answerV (z : Str) (bs : List Bool) : Bool :=
  if z = "yes" ∨ z = "no" then decide (z = "yes")
  else if z = "keep" ∨ z = "not" then decide (bs.getD 0 false = decide (z = "keep"))
  else if z = "both" then bs.all id
  else if z = "either" then bs.any id
  else if z = "pick" then (if bs.getD 0 false = true then bs.getD 1 false else bs.getD 2 false)
  else if z = "most" then decide (2 ≤ ((bs.filter id).length : Int))
  else decide (((bs.filter id).length : Int) % 2 = 1)
def answerM (z : Str) (bs : List Bool) : Except Err Bool := match wantsM z with
  | .error e => .error e
  | .ok (lo, hi) => if lo ≤ bs.length ∧ (bs.length : Int) ≤ hi then .ok (answerV z bs) else .error .sources

theorem answerM_ok {z : Str} {bs : List Bool} {b : Bool} (h : answerM z bs = .ok b) : b = answerV z bs ∧ ∃ i, least z = some i ∧ i ≤ bs.length := by
  unfold answerM wantsM at h
  cases e : least z with
  | none => rw [e] at h; cases h
  | some i =>
    rw [e] at h
    by_cases c : i ≤ bs.length ∧ (bs.length : Int) ≤ (if i = 2 then 9 else i)
    · simp only [if_pos c] at h
      injection h with h
      exact ⟨h.symm, i, rfl, c.1⟩
    · simp only [if_neg c] at h
      cases h
theorem least_cases {z : Str} {i : Int} (h : least z = some i) : z = "yes" ∨ z = "no" ∨ z = "keep" ∨ z = "not" ∨ z = "both" ∨ z = "either" ∨ z = "unlike" ∨ z = "pick" ∨ z = "most" := by
  unfold least at h
  repeat' split at h
  all_goals first | (cases h; done) | (simp only [*, true_or, or_true])
theorem all_count (bs : List Bool) : (bs.all id) = decide ((bs.filter id).length = bs.length) := by
  induction bs with
  | nil => rfl
  | cons b r ih =>
    have hle := List.length_filter_le id r
    cases b
    · rw [List.all_cons]
      simp
      omega
    · rw [List.all_cons, ih]
      simp
theorem any_count (bs : List Bool) : (bs.any id) = decide (0 < (bs.filter id).length) := by
  induction bs with
  | nil => rfl
  | cons b r ih =>
    cases b
    · rw [List.any_cons, ih]; simp
    · rw [List.any_cons]; simp

def kinds9 : List Str := ["yes", "no", "keep", "not", "both", "either", "unlike", "pick", "most"]
def lo9 : List Int := [0, 0, 1, 1, 2, 2, 2, 3, 3]
theorem wants_le {z : Str} {lo hi : Int} (h : wantsM z = .ok (lo, hi)) : 0 ≤ lo ∧ lo ≤ 3 ∧ hi ≤ 9 := by
  unfold wantsM at h
  cases e : least z with
  | none => rw [e] at h; cases h
  | some i =>
    rw [e] at h
    injection h with h
    injection h with h1 h2
    have : i = 0 ∨ i = 1 ∨ i = 2 ∨ i = 3 := by
      unfold least at e
      repeat' split at e
      all_goals first | (cases e; done) | (cases e; omega)
    subst h1 h2
    rcases this with rfl | rfl | rfl | rfl <;> decide
/-- a cell of the script -/
def cell (ns : List Int) (k : Int) : Int := ns.getD k.toNat 0

/-! ### plans, plain -/
structure Gate where
  kind : Str
  srcs : List Int
  delay : Int
structure Plan where
  many : Int
  gates : List Gate
def Plan.lines (p : Plan) : Int := p.many + p.gates.length
/-! what checked refuses -/
def errGate (g : Gate) (lines : Int) : Option Err := match wantsM g.kind with
  | .error e => some e
  | .ok b => if ¬ (b.1 ≤ g.srcs.length ∧ (g.srcs.length : Int) ≤ b.2) then some .sources
    else if (g.srcs.any fun s => !(decide (0 ≤ s) && decide (s < lines))) = true then some .line
    else if ¬ (1 ≤ g.delay ∧ g.delay ≤ 60) then some .delay else none
def errGates (lines : Int) : List Gate → Option Err
  | [] => none
  | g :: r => match errGate g lines with
    | some e => some e
    | none => errGates lines r
def errPlan (p : Plan) : Option Err := if ¬ (0 ≤ p.many ∧ p.many ≤ 60) ∨ 200 < p.gates.length then some .size else errGates p.lines p.gates
def orErr {α : Type} (o : Option Err) (a : α) : Except Err α := match o with
  | some e => .error e
  | none => .ok a
def checkedM (p : Plan) : Except Err Int := orErr (errPlan p) p.lines
theorem errGates_none {lines : Int} : ∀ {gs : List Gate}, errGates lines gs = none → ∀ g ∈ gs, errGate g lines = none
  | [], _, _, h => by cases h
  | g :: r, h, x, hx => by
    rw [errGates] at h
    cases e : errGate g lines with
    | some y => rw [e] at h; cases h
    | none =>
      rw [e] at h
      rcases List.mem_cons.mp hx with rfl | hx
      · exact e
      · exact errGates_none h x hx
theorem errGates_of {lines : Int} : ∀ {gs : List Gate}, (∀ g ∈ gs, errGate g lines = none) → errGates lines gs = none
  | [], _ => rfl
  | g :: r, h => by
    rw [errGates, h g List.mem_cons_self]
    exact errGates_of fun x hx => h x (List.mem_cons_of_mem _ hx)
/-- a right gate -/
theorem gate_ok {g : Gate} {lines : Int} (h : errGate g lines = none) : (∃ lo hi, wantsM g.kind = .ok (lo, hi) ∧ lo ≤ g.srcs.length ∧ (g.srcs.length : Int) ≤ hi) ∧ (∀ s ∈ g.srcs, 0 ≤ s ∧ s < lines) ∧ 1 ≤ g.delay ∧ g.delay ≤ 60 := by
  unfold errGate at h
  cases e : wantsM g.kind with
  | error x => rw [e] at h; cases h
  | ok b =>
    rw [e] at h
    have h : (if ¬ (b.1 ≤ g.srcs.length ∧ (g.srcs.length : Int) ≤ b.2) then some Err.sources else if (g.srcs.any fun s => !(decide (0 ≤ s) && decide (s < lines))) = true then some Err.line else if ¬ (1 ≤ g.delay ∧ g.delay ≤ 60) then some Err.delay else none) = none := h
    split at h
    · cases h
    · rename_i c1
      split at h
      · cases h
      · rename_i c2
        split at h
        · cases h
        · rename_i c3
          refine ⟨⟨b.1, b.2, rfl, Decidable.not_not.mp c1⟩, fun s hs => ?_, Decidable.not_not.mp c3⟩
          have c4 := List.any_eq_false.mp (by simpa using c2 : (g.srcs.any fun s => !(decide (0 ≤ s) && decide (s < lines))) = false) s hs
          simp at c4
          exact ⟨c4.1, c4.2⟩
theorem gate_err {g : Gate} {lines lo hi : Int} (h1 : wantsM g.kind = .ok (lo, hi)) (h2 : lo ≤ g.srcs.length ∧ (g.srcs.length : Int) ≤ hi) (h3 : ∀ s ∈ g.srcs, 0 ≤ s ∧ s < lines) (h4 : 1 ≤ g.delay ∧ g.delay ≤ 60) : errGate g lines = none := by
  unfold errGate
  rw [h1]
  have c2 : (g.srcs.any fun s => !(decide (0 ≤ s) && decide (s < lines))) = false := by
    rw [List.any_eq_false]
    intro s hs
    have := h3 s hs
    simp [this.1, this.2]
  show (if ¬ (lo ≤ g.srcs.length ∧ (g.srcs.length : Int) ≤ hi) then some Err.sources else if (g.srcs.any fun s => !(decide (0 ≤ s) && decide (s < lines))) = true then some Err.line else if ¬ (1 ≤ g.delay ∧ g.delay ≤ 60) then some Err.delay else none) = none
  rw [if_neg (fun h => h h2), c2, if_neg (by decide), if_neg (fun h => h h4)]
/-- a right plan -/
structure Valid (p : Plan) : Prop where
  m0 : 0 ≤ p.many
  m60 : p.many ≤ 60
  n200 : p.gates.length ≤ 200
  gate : ∀ g ∈ p.gates, errGate g p.lines = none
theorem valid_iff {p : Plan} : errPlan p = none ↔ Valid p := by
  unfold errPlan
  by_cases c : ¬ (0 ≤ p.many ∧ p.many ≤ 60) ∨ 200 < p.gates.length
  · rw [if_pos c]
    refine ⟨fun h => (by cases h), fun v => ?_⟩
    rcases c with c | c
    · exact absurd ⟨v.m0, v.m60⟩ c
    · exact absurd v.n200 (by omega)
  · rw [if_neg c]
    have c1 : 0 ≤ p.many ∧ p.many ≤ 60 := by
      by_cases h : 0 ≤ p.many ∧ p.many ≤ 60
      · exact h
      · exact absurd (Or.inl h) c
    have c2 : p.gates.length ≤ 200 := by
      by_cases h : 200 < p.gates.length
      · exact absurd (Or.inr h) c
      · omega
    exact ⟨fun h => ⟨c1.1, c1.2, c2, errGates_none h⟩, fun v => errGates_of v.gate⟩
/-! ### the order: gone through -/
def okSrcs (d : List Bool) (ss : List Int) : Bool := (ss.map fun s => d.getD s.toNat false).all id
/-- the least place from k on whose gate can be done -/
def readyAt (many : Int) (d : List Bool) : List Gate → Int → Option Int
  | [], _ => none
  | g :: r, k => if d.getD (many + k).toNat false = false ∧ okSrcs d g.srcs = true then some (many + k) else readyAt many d r (k + 1)
def readyM (p : Plan) (d : List Bool) : Option Int := readyAt p.many d p.gates 0
def goM (p : Plan) : Nat → List Int → List Bool → List Int × List Bool
  | 0, f, d => (f, d)
  | n + 1, f, d => match readyM p d with
    | none => (f, d)
    | some l => goM p n (f ++ [l]) (d.set l.toNat true)
def done0 (p : Plan) : List Bool := (List.range p.lines.toNat).map fun i : Nat => decide ((i : Int) < p.many)
def goneM (p : Plan) : List Int × List Bool := goM p (p.gates.length + 1) [] (done0 p)
def orderM (p : Plan) : Except Err (List Int) := match errPlan p with
  | some e => .error e
  | none => if (goneM p).1.length < p.gates.length then .error .ringed else .ok (goneM p).1
theorem errGates_first {lines : Int} {e : Err} : ∀ {gs : List Gate} {i : Nat} {g : Gate}, (∀ k g, k < i → gs[k]? = some g → errGate g lines = none) → gs[i]? = some g → errGate g lines = some e → errGates lines gs = some e
  | [], i, _, _, h, _ => by simp at h
  | x :: r, 0, g, _, h, he => by
    simp at h; subst h
    rw [errGates, he]
  | x :: r, i + 1, g, hk, h, he => by
    rw [errGates, hk 0 x (by omega) rfl]
    exact errGates_first (i := i) (fun k g hk' hg => hk (k + 1) g (by omega) (by simpa using hg)) (by simpa using h) he
theorem errGates_all {lines : Int} {gs : List Gate} (h : ∀ (k : Nat) g, gs[k]? = some g → errGate g lines = none) : errGates lines gs = none := errGates_of fun g hg => by
  obtain ⟨k, hk1, hk2⟩ := List.getElem_of_mem hg
  exact h k g (by rw [List.getElem?_eq_getElem hk1, hk2])

/-! ### how data stands in the heap -/
/-- values that stand for data, one by one -/
def Rows {α : Type} (R : V → α → Prop) (vs : List V) (as : List α) : Prop := vs.length = as.length ∧ ∀ (i : Nat) v a, vs[i]? = some v → as[i]? = some a → R v a
section
variable {α : Type} {R R' : V → α → Prop} {vs ws : List V} {as bs : List α} {v : V} {a : α}
theorem rows_nil : Rows R [] [] := ⟨rfl, fun i v a h => by simp at h⟩
theorem rows_imp (h : Rows R vs as) (f : ∀ v a, R v a → R' v a) : Rows R' vs as := ⟨h.1, fun i v a h1 h2 => f v a (h.2 i v a h1 h2)⟩
theorem rows_snoc (h : Rows R vs as) (r : R v a) : Rows R (vs ++ [v]) (as ++ [a]) := by
  refine ⟨by simp [h.1], fun i x y h1 h2 => ?_⟩
  by_cases c : i < vs.length
  · rw [List.getElem?_append_left c] at h1
    rw [List.getElem?_append_left (by rw [← h.1]; exact c)] at h2
    exact h.2 i x y h1 h2
  · have c' : vs.length ≤ i := by omega
    rw [List.getElem?_append_right c'] at h1
    rw [List.getElem?_append_right (by rw [← h.1]; exact c')] at h2
    rw [h.1] at h1
    have e1 : i - as.length = 0 := by
      have := (List.getElem?_eq_some_iff.mp h1).1
      simp at this
      exact this
    rw [e1] at h1 h2
    simp at h1 h2
    subst h1 h2
    exact r
theorem rows_append (h : Rows R vs as) (h' : Rows R ws bs) : Rows R (vs ++ ws) (as ++ bs) := by
  refine ⟨by simp [h.1, h'.1], fun i x y h1 h2 => ?_⟩
  by_cases c : i < vs.length
  · rw [List.getElem?_append_left c] at h1
    rw [List.getElem?_append_left (by rw [← h.1]; exact c)] at h2
    exact h.2 i x y h1 h2
  · have c' : vs.length ≤ i := by omega
    rw [List.getElem?_append_right c'] at h1
    rw [List.getElem?_append_right (by rw [← h.1]; exact c'), ← h.1] at h2
    exact h'.2 _ x y h1 h2
theorem rows_set (h : Rows R vs as) (i : Nat) (r : R v a) : Rows R (vs.set i v) (as.set i a) := by
  refine ⟨by simp [h.1], fun k x y h1 h2 => ?_⟩
  rw [List.getElem?_set] at h1 h2
  by_cases c : i = k
  · subst c
    simp only [if_true] at h1 h2
    rw [← h.1] at h2
    split at h1
    · rename_i hl
      rw [if_pos hl] at h2
      cases h1; cases h2
      exact r
    · cases h1
  · rw [if_neg c] at h1 h2
    exact h.2 k x y h1 h2
theorem rows_get (h : Rows R vs as) {i : Nat} (ha : as[i]? = some a) : ∃ v, vs[i]? = some v ∧ R v a := by
  have hl : i < vs.length := by rw [h.1]; exact (List.getElem?_eq_some_iff.mp ha).1
  exact ⟨vs[i], List.getElem?_eq_getElem hl, h.2 i _ _ (List.getElem?_eq_getElem hl) ha⟩
theorem rows_get' (h : Rows R vs as) {i : Nat} (hv : vs[i]? = some v) : ∃ a, as[i]? = some a ∧ R v a := by
  have hl : i < as.length := by rw [← h.1]; exact (List.getElem?_eq_some_iff.mp hv).1
  exact ⟨as[i], List.getElem?_eq_getElem hl, h.2 i _ _ hv (List.getElem?_eq_getElem hl)⟩
end
/-- a gate, a plan -/
def GateAt (K : PySem.W.Frag) (H : Hp) (v : V) (g : Gate) : Prop := ∃ a s, v = .ref a ∧ SqT K H a [.str g.kind, .ref s, .int g.delay] ∧ SqT K H s (g.srcs.map V.int)
def GatesAt (K : PySem.W.Frag) (H : Hp) (a : Addr) (gs : List Gate) : Prop := ∃ vs, SqL K H a vs ∧ Rows (GateAt K H) vs gs
def PlanAt (K : PySem.W.Frag) (H : Hp) (v : V) (p : Plan) : Prop := ∃ a g, v = .ref a ∧ SqT K H a [.int p.many, .ref g] ∧ GatesAt K H g p.gates
section
variable {K : PySem.W.Frag} {H H' : Hp} {v : V} {g : Gate} {gs : List Gate} {p : Plan} {a : Addr}
theorem GateAt.mono (e : Ex H H') (h : GateAt K H v g) : GateAt K H' v g := by
  obtain ⟨a, s, rfl, h1, h2⟩ := h
  exact ⟨a, s, rfl, ex_t e h1, ex_t e h2⟩
theorem GatesAt.mono (e : Ex H H') (h : GatesAt K H a gs) : GatesAt K H' a gs := by
  obtain ⟨vs, h1, h2⟩ := h
  exact ⟨vs, ex_l e h1, rows_imp h2 fun _ _ r => r.mono e⟩
theorem PlanAt.mono (e : Ex H H') (h : PlanAt K H v p) : PlanAt K H' v p := by
  obtain ⟨a, g, rfl, h1, h2⟩ := h
  exact ⟨a, g, rfl, ex_t e h1, h2.mono e⟩
/-- a tuple stays when a list changes -/
theorem sqT_put {xs : List V} {l : Addr} {ys : List V} {o : HO} (hl : H l = some (.lst ys)) (h : SqT K H a xs) : SqT K (upd H l o) a xs := by
  rcases h with h | h
  · refine .inl ?_
    rcases h with h | ⟨ob, h⟩
    · refine .inl ?_
      rw [upd_ne]
      · exact h
      · exact ne_of h hl (by intro z; cases z)
    · refine .inr ⟨ob, ?_⟩
      rw [upd_ne]
      · exact h
      · exact ne_of h hl (by intro z; cases z)
  · exact .inr h
theorem GateAt.put {l : Addr} {ys : List V} {o : HO} (hl : H l = some (.lst ys)) (h : GateAt K H v g) : GateAt K (upd H l o) v g := by
  obtain ⟨a, s, rfl, h1, h2⟩ := h
  exact ⟨a, s, rfl, sqT_put hl h1, sqT_put hl h2⟩
end
/-- as data, for == -/
def gateD (g : Gate) : PyData := .tuple [.str g.kind, .tuple (g.srcs.map .int), .int g.delay]
def planD (p : Plan) : PyData := .tuple [.int p.many, .list (p.gates.map gateD)]
theorem GateAt.dp {K : PySem.W.Frag} {H : Hp} {v : V} {g : Gate} (h : GateAt K H v g) : Dp K H v (gateD g) := by
  obtain ⟨a, s, rfl, h1, h2⟩ := h
  exact .tup h1 (.cons (.str _) (.cons (.tup h2 (dpAll_map _ _ g.srcs fun b _ => .int b)) (.cons (.int _) .nil)))
theorem dpAll_rows {K : PySem.W.Frag} {H : Hp} {α : Type} {R : V → α → Prop} (f : α → PyData) (hf : ∀ v a, R v a → Dp K H v (f a)) : ∀ {vs : List V} {as : List α}, Rows R vs as → DpAll K H vs (as.map f)
  | [], [], _ => .nil
  | [], _ :: _, h => by have := h.1; simp at this
  | _ :: _, [], h => by have := h.1; simp at this
  | v :: vs, a :: as, h => .cons (hf v a (h.2 0 v a rfl rfl)) (dpAll_rows f hf ⟨by have := h.1; simpa using this, fun i x y h1 h2 => h.2 (i + 1) x y (by simpa using h1) (by simpa using h2)⟩)
theorem PlanAt.dp {K : PySem.W.Frag} {H : Hp} {v : V} {p : Plan} (h : PlanAt K H v p) : Dp K H v (planD p) := by
  obtain ⟨a, g, rfl, h1, vs, h2, h3⟩ := h
  exact .tup h1 (.cons (.int _) (.cons (.lst h2 (dpAll_rows gateD (fun _ _ r => r.dp) h3)) .nil))
theorem gateD_lay {g : Gate} (h : PyData.strOk g.kind = true) : (gateD g).canLay0 = true := by
  unfold gateD
  rw [PyData.canLay0, PyData.canLayAll0, PyData.canLay0, h, PyData.canLayAll0, PyData.canLay0, canLayAll_map _ _ fun _ _ => by simp [PyData.canLay0], PyData.canLayAll0, PyData.canLay0, PyData.canLayAll0]; rfl
theorem gateD_deep (g : Gate) : (gateD g).depth ≤ 3 := by
  unfold gateD
  have := depthAll_map PyData.int 0 g.srcs fun _ _ => by simp [PyData.depth]
  simp only [PyData.depth, PyData.depthAll]
  omega
theorem planD_shaped {p : Plan} (h : ∀ g ∈ p.gates, PyData.strOk g.kind = true) : SeqAt.shaped (planD p) = true := by
  unfold SeqAt.shaped planD
  have := depthAll_map gateD 3 p.gates fun g _ => gateD_deep g
  rw [PyData.canLay0, PyData.canLayAll0, PyData.canLay0, PyData.canLayAll0, PyData.canLay0, canLayAll_map _ _ fun g hg => gateD_lay (h g hg), PyData.canLayAll0]
  simp only [PyData.depth, PyData.depthAll]
  simp
  omega
/-- (kind, sources, delay), the sources a tuple made on the way -/
theorem ep_gate {K : PySem.W.Frag} {σ : L2.St} {G : Hp} {tk tss td : TE} {z : Str} {ss : List Int} {d : Int} (h1 : Ev tk σ G (.str z)) (h2 : EvU tss σ G (ss.map V.int)) (h3 : Ev td σ G (.int d)) :
    EvP (tTup (tCons tk (tCons tss (tCons td tNil)))) σ G fun v G' => GateAt K G' v ⟨z, ss, d⟩ := fun H e Q q =>
  h1 H e _ fun H1 e1 => h2 H1 (e.trans e1) _ fun p H2 hp e2 hp2 => h3 H2 ((e.trans e1).trans e2) _ fun H3 e3 =>
    ⟨sz_of (by show 3 ≤ 100000; decide), fun a ha => q _ (upd H3 a (.tup [.str z, .ref p, .int d])) _ ((((e.trans e1).trans e2).trans e3).trans (Ex.new ha)) (Ex.refl _) (((e1.trans e2).trans e3).trans (Ex.new ha))
      ⟨a, p, rfl, st_of upd_same, ex_t (Ex.new ha) (st_of (e3 _ _ hp2))⟩⟩
/-- .. the sources a tuple that stands -/
theorem ep_gateR {K : PySem.W.Frag} {σ : L2.St} {G : Hp} {tk tss td : TE} {z : Str} {ss : List Int} {d : Int} {s : Addr} (h1 : Ev tk σ G (.str z)) (h2 : Ev tss σ G (.ref s)) (hs : SqT K G s (ss.map V.int)) (h3 : Ev td σ G (.int d)) :
    EvP (tTup (tCons tk (tCons tss (tCons td tNil)))) σ G fun v G' => GateAt K G' v ⟨z, ss, d⟩ := fun H e Q q =>
  h1 H e _ fun H1 e1 => h2 H1 (e.trans e1) _ fun H2 e2 => h3 H2 ((e.trans e1).trans e2) _ fun H3 e3 =>
    ⟨sz_of (by show 3 ≤ 100000; decide), fun a ha => q _ (upd H3 a (.tup [.str z, .ref s, .int d])) _ ((((e.trans e1).trans e2).trans e3).trans (Ex.new ha)) (Ex.refl _) (((e1.trans e2).trans e3).trans (Ex.new ha))
      ⟨a, s, rfl, st_of upd_same, ex_t ((((e.trans e1).trans e2).trans e3).trans (Ex.new ha)) hs⟩⟩
theorem gates_put {K : PySem.W.Frag} {G G' : Hp} {vs ys : List V} {gs : List Gate} {l : Addr} {o : HO} (h : Rows (GateAt K G) vs gs) (e : Ex G G') (hl : G' l = some (.lst ys)) : Rows (GateAt K (upd G' l o)) vs gs := rows_imp h fun _ _ r => (r.mono e).put hl
/-- (many, gates), the list made on the way -/
theorem ep_plan {K : PySem.W.Frag} {σ : L2.St} {G : Hp} {ta tb : TE} {vs : List V} {p : Plan} (h1 : Ev ta σ G (.int p.many)) (h2 : EvL tb σ G vs) (hR : Rows (GateAt K G) vs p.gates) :
    EvP (tTup (tCons ta (tCons tb tNil))) σ G fun v G' => PlanAt K G' v p := fun H e Q q =>
  h1 H e _ fun H1 e1 => h2 H1 (e.trans e1) _ fun g H2 hg e2 hl =>
    ⟨sz_of (by show 2 ≤ 100000; decide), fun a ha => q _ (upd H2 a (.tup [.int p.many, .ref g])) _ (((e.trans e1).trans e2).trans (Ex.new ha)) (Ex.refl _) ((e1.trans e2).trans (Ex.new ha))
      ⟨a, g, rfl, st_of upd_same, vs, ex_l (Ex.new ha) (sq_of hl), rows_imp hR fun _ _ r => r.mono (((e.trans e1).trans e2).trans (Ex.new ha))⟩⟩

/-! ### the order's mathematics -/
def cntF (d : List Bool) : Nat := (d.filter fun b => !b).length
theorem readyAt_some {many l : Int} {d : List Bool} : ∀ {gs : List Gate} {k : Int}, readyAt many d gs k = some l → ∃ (i : Nat) (g : Gate), gs[i]? = some g ∧ l = many + (k + i) ∧ d.getD l.toNat false = false ∧ okSrcs d g.srcs = true
  | [], _, h => by cases h
  | g :: r, k, h => by
    rw [readyAt] at h
    split at h
    · rename_i c
      have e : many + k = l := Option.some.inj h
      exact ⟨0, g, rfl, by omega, by rw [← e]; exact c.1, c.2⟩
    · obtain ⟨i, g', h1, h2, h3, h4⟩ := readyAt_some h
      exact ⟨i + 1, g', by simpa using h1, by rw [h2]; omega, h3, h4⟩
theorem readyAt_none {many : Int} {d : List Bool} : ∀ {gs : List Gate} {k : Int}, readyAt many d gs k = none → ∀ (i : Nat) (g : Gate), gs[i]? = some g → d.getD (many + (k + i)).toNat false = true ∨ okSrcs d g.srcs = false
  | [], _, _, i, g, hg => by simp at hg
  | x :: r, k, h, i, g, hg => by
    rw [readyAt] at h
    split at h
    · cases h
    · rename_i c
      cases i with
      | zero =>
        simp at hg; subst hg
        have e : (many + (k + ((0 : Nat) : Int))) = many + k := by omega
        rw [e]
        cases h1 : d.getD (many + k).toNat false
        · cases h2 : okSrcs d x.srcs
          · exact .inr rfl
          · exact absurd ⟨h1, h2⟩ c
        · exact .inl rfl
      | succ i =>
        have := readyAt_none h i g (by simpa using hg)
        have e : (many + (k + 1 + (i : Int))) = many + (k + ((i + 1 : Nat) : Int)) := by omega
        rw [e] at this
        exact this
theorem ready_some {p : Plan} {d : List Bool} {l : Int} (h : readyM p d = some l) : ∃ (i : Nat) (g : Gate), p.gates[i]? = some g ∧ l = p.many + i ∧ d.getD l.toNat false = false ∧ okSrcs d g.srcs = true := by
  obtain ⟨i, g, h1, h2, h3⟩ := readyAt_some h
  exact ⟨i, g, h1, by omega, h3⟩
theorem ready_none {p : Plan} {d : List Bool} (h : readyM p d = none) (i : Nat) (g : Gate) (hg : p.gates[i]? = some g) : d.getD (p.many + i).toNat false = true ∨ okSrcs d g.srcs = false := by
  have := readyAt_none h i g hg
  rw [show p.many + (0 + (i : Int)) = p.many + i by omega] at this
  exact this
theorem cntF_set : ∀ {d : List Bool} {i : Nat}, i < d.length → d.getD i false = false → cntF (d.set i true) + 1 = cntF d
  | [], i, h, _ => by simp at h
  | b :: r, 0, _, h => by
    have : b = false := by simpa using h
    subst this
    simp [cntF]
  | b :: r, i + 1, h, h2 => by
    have ih := cntF_set (d := r) (i := i) (by simpa using h) (by simpa using h2)
    cases b <;> simp [cntF] at ih ⊢ <;> omega
theorem cntF_le (d : List Bool) : cntF d ≤ d.length := List.length_filter_le _ _
theorem done0_len (p : Plan) : (done0 p).length = p.lines.toNat := by unfold done0; rw [List.length_map, List.length_range]
theorem done0_get {p : Plan} {i : Nat} (h : i < p.lines.toNat) : (done0 p).getD i false = decide ((i : Int) < p.many) := by
  unfold done0
  rw [List.getD_eq_getElem?_getD, List.getElem?_map, List.getElem?_range h]
  rfl
theorem cntF_app (a b : List Bool) : cntF (a ++ b) = cntF a + cntF b := by unfold cntF; rw [List.filter_append, List.length_append]
theorem cntF_done (m : Int) (hm : 0 ≤ m) : ∀ n : Nat, cntF ((List.range (m.toNat + n)).map fun i : Nat => decide ((i : Int) < m)) = n
  | 0 => by
    unfold cntF
    rw [List.length_eq_zero_iff, List.filter_eq_nil_iff]
    intro b hb
    obtain ⟨i, hi, rfl⟩ := List.mem_map.mp hb
    have := List.mem_range.mp hi
    simp; omega
  | n + 1 => by
    rw [show m.toNat + (n + 1) = (m.toNat + n) + 1 from rfl, List.range_succ, List.map_append, cntF_app, cntF_done m hm n]
    have : ¬ (((m.toNat + n : Nat) : Int) < m) := by omega
    simp only [List.map_cons, List.map_nil, this, decide_false]
    rfl
theorem cntF_done0 {p : Plan} (h : 0 ≤ p.many) : cntF (done0 p) = p.gates.length := by
  unfold done0
  have e : p.lines.toNat = p.many.toNat + p.gates.length := by unfold Plan.lines; omega
  rw [e]
  exact cntF_done p.many h p.gates.length
/-! what goM keeps -/
/-- between two turns: what is found is what is done of the gates, each behind its sources -/
structure GoInv (p : Plan) (f : List Int) (d : List Bool) : Prop where
  len : (d.length : Int) = p.lines
  inp : ∀ i : Nat, (i : Int) < p.many → d.getD i false = true
  fnd : ∀ l : Int, l ∈ f ↔ p.many ≤ l ∧ l < p.lines ∧ d.getD l.toNat false = true
  nd : f.Nodup
  cnt : f.length + cntF d = p.gates.length
theorem goInv0 {p : Plan} (h : 0 ≤ p.many) : GoInv p [] (done0 p) := by
  have hl : 0 ≤ p.lines := by unfold Plan.lines; omega
  refine ⟨by rw [done0_len]; omega, fun i hi => ?_, fun l => ?_, List.nodup_nil, by rw [cntF_done0 h]; simp⟩
  · rw [done0_get (by unfold Plan.lines; omega)]; exact decide_eq_true hi
  · constructor
    · intro h; cases h
    · rintro ⟨h1, h2, h3⟩
      rw [done0_get (by omega)] at h3
      have := of_decide_eq_true h3
      omega
theorem getD_set {d : List Bool} {i j : Nat} {b : Bool} (h : i < d.length) : (d.set i b).getD j false = if i = j then b else d.getD j false := by
  rw [List.getD_eq_getElem?_getD, List.getElem?_set]
  by_cases c : i = j
  · subst c; simp [h]
  · simp [c, List.getD_eq_getElem?_getD]
theorem GoInv.step {p : Plan} {f : List Int} {d : List Bool} {l : Int} (v : GoInv p f d) (hm : 0 ≤ p.many) (h : readyM p d = some l) : GoInv p (f ++ [l]) (d.set l.toNat true) ∧ cntF (d.set l.toNat true) + 1 = cntF d ∧ p.many ≤ l ∧ l < p.lines := by
  obtain ⟨i, g, hg, hl, hd, hs⟩ := ready_some h
  have hi : i < p.gates.length := (List.getElem?_eq_some_iff.mp hg).1
  have l0 : p.many ≤ l := by omega
  have l1 : l < p.lines := by unfold Plan.lines; omega
  have ln : l.toNat < d.length := by have := v.len; omega
  have hc := cntF_set ln hd
  have nl : l ∉ f := fun h => by
    have := ((v.fnd l).mp h).2.2
    rw [hd] at this; cases this
  refine ⟨⟨by rw [List.length_set]; exact v.len, fun j hj => ?_, fun x => ?_, ?_, ?_⟩, hc, l0, l1⟩
  · rw [getD_set ln]
    split
    · rfl
    · exact v.inp j hj
  · rw [getD_set ln, List.mem_append, v.fnd x, List.mem_singleton]
    constructor
    · rintro (⟨h1, h2, h3⟩ | rfl)
      · exact ⟨h1, h2, by split; rfl; exact h3⟩
      · exact ⟨l0, l1, by rw [if_pos rfl]⟩
    · rintro ⟨h1, h2, h3⟩
      by_cases c : l.toNat = x.toNat
      · right; omega
      · rw [if_neg c] at h3
        exact .inl ⟨h1, h2, h3⟩
  · rw [List.nodup_append]
    exact ⟨v.nd, by simp, fun a ha b hb => by rw [List.mem_singleton] at hb; subst hb; intro e; subst e; exact nl ha⟩
  · rw [List.length_append]
    have := v.cnt
    simp; omega
theorem goM_inv {p : Plan} (hm : 0 ≤ p.many) : ∀ (n : Nat) (f : List Int) (d : List Bool), GoInv p f d → cntF d < n → GoInv p (goM p n f d).1 (goM p n f d).2 ∧ readyM p (goM p n f d).2 = none
  | 0, _, _, _, h => absurd h (Nat.not_lt_zero _)
  | n + 1, f, d, v, h => by
    rw [goM]
    cases e : readyM p d with
    | none => exact ⟨v, e⟩
    | some l =>
      obtain ⟨v', hc, _⟩ := v.step hm e
      exact goM_inv hm n _ _ v' (by omega)
theorem gone_inv {p : Plan} (hm : 0 ≤ p.many) : GoInv p (goneM p).1 (goneM p).2 ∧ readyM p (goneM p).2 = none :=
  goM_inv hm _ _ _ (goInv0 hm) (by rw [cntF_done0 hm]; omega)
/-- each found line comes behind its sources: along goM -/
theorem okSrcs_iff {d : List Bool} {ss : List Int} : okSrcs d ss = true ↔ ∀ s ∈ ss, d.getD s.toNat false = true := by
  unfold okSrcs
  rw [List.all_eq_true]
  simp
/-! ### a plan without a ring -/
/-- a number of each line that falls from a gate to its sources -/
def Ranked (p : Plan) (rk : Int → Nat) : Prop := ∀ (i : Nat) (g : Gate), p.gates[i]? = some g → ∀ s ∈ g.srcs, rk s < rk (p.many + i)
def Free (p : Plan) : Prop := ∃ rk, Ranked p rk
theorem gone_all {p : Plan} (v : Valid p) (h : Free p) : ∀ i : Nat, i < p.gates.length → (goneM p).2.getD (p.many + i).toNat false = true := by
  obtain ⟨rk, hr⟩ := h
  obtain ⟨gi, hn⟩ := gone_inv v.m0
  have main : ∀ n (i : Nat), i < p.gates.length → rk (p.many + i) < n → (goneM p).2.getD (p.many + i).toNat false = true := by
    intro n
    induction n with
    | zero => intro i _ h; omega
    | succ n ih =>
      intro i hi hrk
      have hg : p.gates[i]? = some p.gates[i] := List.getElem?_eq_getElem hi
      rcases ready_none hn i _ hg with h | h
      · exact h
      · exfalso
        have h2 : okSrcs (goneM p).2 p.gates[i].srcs = true := okSrcs_iff.mpr fun s hs => by
          obtain ⟨_, hsr, _⟩ := gate_ok (v.gate _ (List.getElem_mem hi))
          obtain ⟨s0, s1⟩ := hsr s hs
          by_cases c : s < p.many
          · exact gi.inp s.toNat (by omega)
          · have e : s = p.many + ((s - p.many).toNat : Int) := by omega
            have hj : (s - p.many).toNat < p.gates.length := by unfold Plan.lines at s1; omega
            have hrs := hr i _ hg s hs
            rw [e]
            exact ih _ hj (by rw [← e]; omega)
        rw [h] at h2; cases h2
  intro i hi
  exact main _ i hi (Nat.lt_succ_self _)
theorem cntF_zero : ∀ {d : List Bool}, (∀ i, i < d.length → d.getD i false = true) → cntF d = 0
  | [], _ => rfl
  | b :: r, h => by
    have h0 : b = true := by simpa using h 0 (by simp)
    have ih := cntF_zero (d := r) fun i hi => by simpa using h (i + 1) (by simpa using hi)
    subst h0
    simpa [cntF] using ih
theorem gone_full {p : Plan} (v : Valid p) (h : Free p) : (goneM p).1.length = p.gates.length := by
  obtain ⟨gi, _⟩ := gone_inv v.m0
  have := gi.cnt
  have z : cntF (goneM p).2 = 0 := cntF_zero fun i hi => by
    by_cases c : (i : Int) < p.many
    · exact gi.inp i c
    · have hl := gi.len
      have m0 := v.m0
      have := gone_all v h (i - p.many.toNat) (by unfold Plan.lines at hl; omega)
      rw [show (p.many + ((i - p.many.toNat : Nat) : Int)).toNat = i by omega] at this
      exact this
  omega
theorem order_free {p : Plan} (v : Valid p) (h : Free p) : orderM p = .ok (goneM p).1 := by
  unfold orderM
  rw [valid_iff.mpr v]
  show (if (goneM p).1.length < p.gates.length then Except.error Err.ringed else .ok (goneM p).1) = _
  rw [if_neg (by rw [gone_full v h]; omega)]
/-! step by step -/
def doneBy (d : List Bool) (ls : List Int) : List Bool := ls.foldl (fun d l => d.set l.toNat true) d
theorem doneBy_snoc (d : List Bool) (ls : List Int) (l : Int) : doneBy d (ls ++ [l]) = (doneBy d ls).set l.toNat true := by
  unfold doneBy; rw [List.foldl_append]; rfl
theorem doneBy_len (d : List Bool) : ∀ ls : List Int, (doneBy d ls).length = d.length := fun ls => by
  induction ls generalizing d with
  | nil => rfl
  | cons l r ih => exact (ih _).trans List.length_set
theorem goM_steps {p : Plan} : ∀ (n : Nat) (f : List Int) (d : List Bool), ∃ rest, (goM p n f d).1 = f ++ rest ∧ ∀ (i : Nat) (l : Int), rest[i]? = some l → readyM p (doneBy d (rest.take i)) = some l
  | 0, f, d => ⟨[], by rw [goM, List.append_nil], fun i l h => by simp at h⟩
  | n + 1, f, d => by
    rw [goM]
    cases e : readyM p d with
    | none => exact ⟨[], by rw [List.append_nil], fun i l h => by simp at h⟩
    | some l =>
      obtain ⟨rest, h1, h2⟩ := goM_steps (p := p) n (f ++ [l]) (d.set l.toNat true)
      refine ⟨l :: rest, by show (goM p n _ _).1 = _; rw [h1, List.append_assoc]; rfl, fun i x hx => ?_⟩
      cases i with
      | zero =>
        have : l = x := by simpa using hx
        subst this
        exact e
      | succ i => exact h2 i x (by simpa using hx)
theorem gone_steps (p : Plan) (i : Nat) (l : Int) (h : (goneM p).1[i]? = some l) : readyM p (doneBy (done0 p) ((goneM p).1.take i)) = some l := by
  obtain ⟨rest, h1, h2⟩ := goM_steps (p := p) (p.gates.length + 1) [] (done0 p)
  have e : (goneM p).1 = rest := h1
  rw [e] at h ⊢
  exact h2 i l h

/-! ### how the laws make gates -/
def some11 : List Int := [99991, 99989, 99971, 99961, 99929, 99923, 99907, 99901, 99881, 99877, 99871]
def mixed (c k m : Int) : Int := (c + 7 * k) * 48271 % some11.getD (k % 11).toNat 0 % m
theorem some11_pos {k : Int} (h0 : 0 ≤ k) (h1 : k < 11) : 0 < some11.getD k.toNat 0 := by
  have h : k = 0 ∨ k = 1 ∨ k = 2 ∨ k = 3 ∨ k = 4 ∨ k = 5 ∨ k = 6 ∨ k = 7 ∨ k = 8 ∨ k = 9 ∨ k = 10 := by omega
  rcases h with rfl | rfl | rfl | rfl | rfl | rfl | rfl | rfl | rfl | rfl | rfl <;> decide
theorem mixed_in {c k m : Int} (h : 0 < m) : 0 ≤ mixed c k m ∧ mixed c k m < m := ⟨Int.emod_nonneg _ (by omega), Int.emod_lt_of_pos _ h⟩
def manyOf (c : Int) : Int := if c / 6 % 8 = 1 then 50 + c / 48 % 11 else if c / 6 % 4 = 2 then 6 + c / 48 % 44 else c % 6
theorem manyOf_in (c : Int) : 0 ≤ manyOf c ∧ manyOf c ≤ 60 := by
  unfold manyOf
  split
  · omega
  · split <;> omega
def ways12 : List Int := [0, 1, 2, 3, 4, 5, 6, 7, 8, 3, 6, 7]
def cnt9 : List Int := [2, 2, 3, 4, 5, 6, 7, 8, 9]
def wayOf (c below : Int) : Int := if below = 0 then c % 2 else ways12.getD (c % 12).toNat 0
def cntOf (c way : Int) : Int := if lo9.getD way.toNat 0 = 2 then cnt9.getD (mixed c 9 9).toNat 0 else lo9.getD way.toNat 0
def srcsOf (c below n : Int) : List Int :=
  let ss := (List.range n.toNat).map fun k : Nat => mixed (c / 12) k below
  if 0 < n ∧ c / 12 % 2 = 1 then ss.set 0 (below - 1) else ss
def gateBy (c below most : Int) : Gate := ⟨kinds9.getD (wayOf c below).toNat "", srcsOf c below (cntOf c (wayOf c below)), 1 + mixed c 10 most⟩
theorem ways12_in {k : Int} (h0 : 0 ≤ k) (h1 : k < 12) : 0 ≤ ways12.getD k.toNat 0 ∧ ways12.getD k.toNat 0 < 9 := by
  have h : k = 0 ∨ k = 1 ∨ k = 2 ∨ k = 3 ∨ k = 4 ∨ k = 5 ∨ k = 6 ∨ k = 7 ∨ k = 8 ∨ k = 9 ∨ k = 10 ∨ k = 11 := by omega
  rcases h with rfl | rfl | rfl | rfl | rfl | rfl | rfl | rfl | rfl | rfl | rfl | rfl <;> decide
theorem cnt9_in {k : Int} (h0 : 0 ≤ k) (h1 : k < 9) : 2 ≤ cnt9.getD k.toNat 0 ∧ cnt9.getD k.toNat 0 ≤ 9 := by
  have h : k = 0 ∨ k = 1 ∨ k = 2 ∨ k = 3 ∨ k = 4 ∨ k = 5 ∨ k = 6 ∨ k = 7 ∨ k = 8 := by omega
  rcases h with rfl | rfl | rfl | rfl | rfl | rfl | rfl | rfl | rfl <;> decide
theorem lo9_in' {k : Int} (h0 : 0 ≤ k) (h1 : k < 9) : 0 ≤ lo9.getD k.toNat 0 ∧ lo9.getD k.toNat 0 ≤ 3 ∧ (k < 2 → lo9.getD k.toNat 0 = 0) ∧ wantsM (kinds9.getD k.toNat "") = .ok (lo9.getD k.toNat 0, if lo9.getD k.toNat 0 = 2 then 9 else lo9.getD k.toNat 0) := by
  have h : k = 0 ∨ k = 1 ∨ k = 2 ∨ k = 3 ∨ k = 4 ∨ k = 5 ∨ k = 6 ∨ k = 7 ∨ k = 8 := by omega
  rcases h with rfl | rfl | rfl | rfl | rfl | rfl | rfl | rfl | rfl <;> exact ⟨by decide, by decide, by decide, rfl⟩
theorem wayOf_in (c : Int) {below : Int} : 0 ≤ wayOf c below ∧ wayOf c below < 9 ∧ (below = 0 → wayOf c below < 2) := by
  unfold wayOf
  split
  · omega
  · have := ways12_in (k := c % 12) (by omega) (by omega)
    exact ⟨this.1, this.2, fun h => by omega⟩
theorem cntOf_in (c : Int) {way : Int} (h0 : 0 ≤ way) (h1 : way < 9) : 0 ≤ cntOf c way ∧ cntOf c way ≤ 9 ∧ (way < 2 → cntOf c way = 0) ∧ (cntOf c way = lo9.getD way.toNat 0 ∨ (lo9.getD way.toNat 0 = 2 ∧ 2 ≤ cntOf c way)) := by
  have h2 := lo9_in' h0 h1
  have h3 := mixed_in (c := c) (k := 9) (m := 9) (by decide)
  have h4 := cnt9_in h3.1 h3.2
  unfold cntOf
  split
  · rename_i h
    refine ⟨by omega, by omega, fun hw => ?_, .inr ⟨h, by omega⟩⟩
    have := h2.2.2.1 hw; omega
  · exact ⟨h2.1, by omega, h2.2.2.1, .inl rfl⟩
theorem srcsOf_len (c below : Int) {n : Int} (h : 0 ≤ n) : ((srcsOf c below n).length : Int) = n := by
  unfold srcsOf
  simp only
  split <;> simp <;> omega
theorem srcsOf_in {c below n s : Int} (hb : 0 < below) (h : s ∈ srcsOf c below n) : 0 ≤ s ∧ s < below := by
  unfold srcsOf at h
  simp only at h
  have base : ∀ x, x ∈ (List.range n.toNat).map (fun k : Nat => mixed (c / 12) k below) → 0 ≤ x ∧ x < below := fun x hx => by
    obtain ⟨k, _, rfl⟩ := List.mem_map.mp hx
    exact mixed_in hb
  split at h
  · rcases List.mem_or_eq_of_mem_set h with h | rfl
    · exact base s h
    · omega
  · exact base s h
theorem kinds9_ok {k : Int} (h0 : 0 ≤ k) (h1 : k < 9) : PyData.strOk (kinds9.getD k.toNat "") = true := by
  have h : k = 0 ∨ k = 1 ∨ k = 2 ∨ k = 3 ∨ k = 4 ∨ k = 5 ∨ k = 6 ∨ k = 7 ∨ k = 8 := by omega
  rcases h with rfl | rfl | rfl | rfl | rfl | rfl | rfl | rfl | rfl <;> decide +kernel
/-- a drawn gate is right, its sources below -/
theorem gateBy_ok {c below most lines : Int} (hb : 0 ≤ below) (hl : below ≤ lines) (hm : 0 < most) (hm2 : most ≤ 60) : errGate (gateBy c below most) lines = none ∧ (∀ s ∈ (gateBy c below most).srcs, 0 ≤ s ∧ s < below) ∧ PyData.strOk (gateBy c below most).kind = true := by
  obtain ⟨w0, w1, w2⟩ := wayOf_in c (below := below)
  obtain ⟨c0, c1, c2, c3⟩ := cntOf_in c w0 w1
  obtain ⟨_, _, _, hw⟩ := lo9_in' w0 w1
  have hlen := srcsOf_len c below c0
  have hs : ∀ s ∈ (gateBy c below most).srcs, 0 ≤ s ∧ s < below := fun s h => by
    by_cases z : below = 0
    · have e : cntOf c (wayOf c below) = 0 := c2 (w2 z)
      have : (srcsOf c below (cntOf c (wayOf c below))).length = 0 := by omega
      rw [List.length_eq_zero_iff] at this
      have h' : s ∈ srcsOf c below (cntOf c (wayOf c below)) := h
      rw [this] at h'
      cases h'
    · exact srcsOf_in (by omega) h
  refine ⟨gate_err (lo := lo9.getD (wayOf c below).toNat 0) (hi := _) hw ?_ (fun s h => ⟨(hs s h).1, by have := (hs s h).2; omega⟩) ?_, hs, kinds9_ok w0 w1⟩
  · show lo9.getD (wayOf c below).toNat 0 ≤ ((srcsOf c below (cntOf c (wayOf c below))).length : Int) ∧ ((srcsOf c below (cntOf c (wayOf c below))).length : Int) ≤ _
    rw [hlen]
    have := (lo9_in' w0 w1).2.1
    split <;> omega
  · have := mixed_in (c := c) (k := 10) hm
    show 1 ≤ 1 + mixed c 10 most ∧ 1 + mixed c 10 most ≤ 60
    omega
def placeOf (k n t : Int) : Int := ((if t % 2 = 1 then n - 1 - k else k) + t / 2) % n
/-! the laws' gates, drawn one behind the other -/
def farGate (far many most k : Int) : Gate := if far % 8 = 4 ∨ many + k = 0 then gateBy (far / 8 + 5 * k) (many + k) most else ⟨"not", [many + k - 1], 1⟩
def farGates (far many most : Int) : Nat → List Gate
  | 0 => []
  | k + 1 => farGates far many most k ++ [farGate far many most k]
def addGates (many most : Int) : List Gate → List Int → List Gate
  | gs, [] => gs
  | gs, c :: cs => addGates many most (gs ++ [gateBy c (many + gs.length) most]) cs
def isFar (ns : List Int) : Prop := cell ns 1 % 8 = 1 ∨ cell ns 1 % 8 = 4
instance (ns : List Int) : Decidable (isFar ns) := by unfold isFar; infer_instance
def startGates (ns : List Int) (many most : Int) : List Gate := if isFar ns then farGates (cell ns 1) many most (60 + cell ns 1 / 8 % 131).toNat else []
def startCells (ns : List Int) : List Int := if isFar ns then (ns.drop 3).take 10 else (ns.drop 3).take 200
def gatesBy (ns : List Int) (many most : Int) : List Gate := addGates many most (startGates ns many most) (startCells ns)
theorem farGates_len (far many most : Int) : ∀ n, (farGates far many most n).length = n
  | 0 => rfl
  | n + 1 => by rw [farGates, List.length_append, farGates_len far many most n]; rfl
theorem addGates_snoc (many most c : Int) : ∀ (cs : List Int) (gs : List Gate), addGates many most gs (cs ++ [c]) = addGates many most gs cs ++ [gateBy c (many + (addGates many most gs cs).length) most]
  | [], gs => rfl
  | x :: cs, gs => by
    rw [List.cons_append, addGates, addGates]
    exact addGates_snoc many most c cs _
theorem addGates_len (many most : Int) : ∀ (cs : List Int) (gs : List Gate), (addGates many most gs cs).length = gs.length + cs.length
  | [], gs => rfl
  | x :: cs, gs => by
    rw [addGates, addGates_len many most cs, List.length_append, List.length_cons, List.length_cons, List.length_nil]
    omega
theorem startGates_len (ns : List Int) (many most : Int) : (startGates ns many most).length ≤ 190 := by
  unfold startGates
  split
  · rw [farGates_len]; omega
  · exact Nat.zero_le _
theorem startCells_len {ns : List Int} (h : ns.length ≤ 63) : (startCells ns).length ≤ 60 ∧ (startGates ns many most).length + (startCells ns).length ≤ 200 := by
  unfold startCells startGates
  split
  · rw [farGates_len, List.length_take, List.length_drop]; omega
  · rw [List.length_take, List.length_drop]
    simp; omega
theorem gatesBy_len {ns : List Int} {many most : Int} (h : ns.length ≤ 63) : (gatesBy ns many most).length ≤ 200 := by
  unfold gatesBy
  rw [addGates_len]
  exact (startCells_len h).2
/-! the laws turn a plan about -/
def invOf (i n t : Int) : Int := if t % 2 = 1 then n - 1 - (i - t / 2) % n else (i - t / 2) % n
def moved (many n t s : Int) : Int := if many ≤ s then many + placeOf (s - many) n t else s
def turnGate (many n t : Int) (g : Gate) : Gate := ⟨g.kind, g.srcs.map (moved many n t), g.delay⟩
def gate0 : Gate := ⟨"", [], 0⟩
def turnedM (many : Int) (gs : List Gate) (t : Int) : Plan := ⟨many, (List.range gs.length).map fun i : Nat => turnGate many gs.length t (gs.getD (invOf i gs.length t).toNat gate0)⟩
theorem placeOf_in {k n t : Int} (h : 0 < n) : 0 ≤ placeOf k n t ∧ placeOf k n t < n := ⟨Int.emod_nonneg _ (by omega), Int.emod_lt_of_pos _ h⟩
theorem invOf_in {i n t : Int} (h : 0 < n) : 0 ≤ invOf i n t ∧ invOf i n t < n := by
  have h1 := Int.emod_nonneg (i - t / 2) (show n ≠ 0 by omega)
  have h2 := Int.emod_lt_of_pos (i - t / 2) h
  unfold invOf
  split <;> omega
theorem place_inv {i n t : Int} (h0 : 0 ≤ i) (h1 : i < n) : placeOf (invOf i n t) n t = i := by
  have e : (if t % 2 = 1 then n - 1 - invOf i n t else invOf i n t) = (i - t / 2) % n := by
    unfold invOf
    by_cases c : t % 2 = 1
    · simp only [if_pos c]; omega
    · simp only [if_neg c]
  unfold placeOf
  rw [e, Int.emod_add_emod, show i - t / 2 + t / 2 = i by omega]
  exact Int.emod_eq_of_lt h0 h1
theorem inv_place {k n t : Int} (h0 : 0 ≤ k) (h1 : k < n) : invOf (placeOf k n t) n t = k := by
  have e : ∀ k' : Int, 0 ≤ k' → k' < n → ((k' + t / 2) % n - t / 2) % n = k' := fun k' a b => by
    rw [Int.sub_eq_add_neg, Int.emod_add_emod, show k' + t / 2 + -(t / 2) = k' by omega]
    exact Int.emod_eq_of_lt a b
  unfold invOf placeOf
  by_cases c : t % 2 = 1
  · simp only [if_pos c]
    rw [e (n - 1 - k) (by omega) (by omega)]
    omega
  · simp only [if_neg c]
    exact e k h0 h1

/-! ### the laws' plans without a ring -/
structure GoodAt (many : Int) (i : Nat) (g : Gate) : Prop where
  ok : ∀ lines, many + i ≤ lines → errGate g lines = none
  lo : ∀ s ∈ g.srcs, 0 ≤ s ∧ s < many + i
  str : PyData.strOk g.kind = true
def Good (many : Int) (gs : List Gate) : Prop := ∀ (i : Nat) g, gs[i]? = some g → GoodAt many i g
theorem good_nil (many : Int) : Good many [] := fun i g h => by simp at h
theorem good_snoc {many : Int} {gs : List Gate} {g : Gate} (h : Good many gs) (hg : GoodAt many gs.length g) : Good many (gs ++ [g]) := fun i x hx => by
  by_cases c : i < gs.length
  · rw [List.getElem?_append_left c] at hx
    exact h i x hx
  · rw [List.getElem?_append_right (by omega)] at hx
    have e : i - gs.length = 0 := by
      have := (List.getElem?_eq_some_iff.mp hx).1
      simp at this; omega
    have e2 : i = gs.length := by omega
    rw [e] at hx
    simp at hx
    subst hx
    rw [e2]; exact hg
theorem good_gateBy {c many most : Int} {i : Nat} (hm : 0 ≤ many) (h0 : 0 < most) (h1 : most ≤ 60) : GoodAt many i (gateBy c (many + i) most) := by
  have q := fun lines h => gateBy_ok (c := c) (below := many + i) (most := most) (lines := lines) (by omega) h h0 h1
  exact ⟨fun lines h => (q lines h).1, (q _ (Int.le_refl _)).2.1, (q _ (Int.le_refl _)).2.2⟩
theorem good_not {many d : Int} {i : Nat} (hm : 0 ≤ many) (h : many + i ≠ 0) (hd : 1 ≤ d ∧ d ≤ 60) : GoodAt many i ⟨"not", [many + i - 1], d⟩ := by
  refine ⟨fun lines hl => gate_err (lo := 1) (hi := 1) rfl ⟨by show (1:Int) ≤ ((1:Nat):Int); decide, by show ((1:Nat):Int) ≤ 1; decide⟩ (fun s hs => ?_) hd, fun s hs => ?_, by show PyData.strOk "not" = true; decide +kernel⟩
  · rcases List.mem_singleton.mp hs with rfl; omega
  · rcases List.mem_singleton.mp hs with rfl; omega
theorem good_far {far many most : Int} (hm : 0 ≤ many) (h0 : 0 < most) (h1 : most ≤ 60) : ∀ n, Good many (farGates far many most n)
  | 0 => good_nil many
  | n + 1 => by
    rw [farGates]
    refine good_snoc (good_far hm h0 h1 n) ?_
    rw [farGates_len]
    unfold farGate
    split
    · exact good_gateBy hm h0 h1
    · rename_i c
      exact good_not hm (fun h => c (.inr h)) (by omega)
theorem good_add {many most : Int} (hm : 0 ≤ many) (h0 : 0 < most) (h1 : most ≤ 60) : ∀ (cs : List Int) (gs : List Gate), Good many gs → Good many (addGates many most gs cs)
  | [], gs, h => h
  | c :: cs, gs, h => by
    rw [addGates]
    exact good_add hm h0 h1 cs _ (good_snoc h (good_gateBy hm h0 h1))
theorem good_gatesBy {ns : List Int} {many most : Int} (hm : 0 ≤ many) (h0 : 0 < most) (h1 : most ≤ 60) : Good many (gatesBy ns many most) := by
  unfold gatesBy startGates
  refine good_add hm h0 h1 _ _ ?_
  split
  · exact good_far hm h0 h1 _
  · exact good_nil many
theorem good_short {many : Int} {gs : List Gate} (h : Good many gs) : ∀ x ∈ gs, x.srcs.length ≤ 9 := fun x hx => by
  obtain ⟨i, hi1, hi2⟩ := List.getElem_of_mem hx
  have q := h i x (by rw [List.getElem?_eq_getElem hi1, hi2])
  obtain ⟨⟨lo, hi, hw, hlo, hhi⟩, _⟩ := gate_ok (q.ok _ (Int.le_refl _))
  have := wants_le hw
  omega
theorem turned_get {many t : Int} {gs : List Gate} {i : Nat} {g : Gate} (h : (turnedM many gs t).gates[i]? = some g) : ∃ (k : Nat) (x : Gate), gs[k]? = some x ∧ (k : Int) = invOf i gs.length t ∧ g = turnGate many gs.length t x ∧ i < gs.length := by
  have hi : i < gs.length := by
    have := (List.getElem?_eq_some_iff.mp h).1
    unfold turnedM at this
    simpa using this
  have hn : (0 : Int) < gs.length := by omega
  obtain ⟨k0, k1⟩ := invOf_in (i := (i : Int)) (t := t) hn
  have hk : (invOf i gs.length t).toNat < gs.length := by omega
  refine ⟨(invOf i gs.length t).toNat, gs[(invOf i gs.length t).toNat], List.getElem?_eq_getElem hk, by omega, ?_, hi⟩
  unfold turnedM at h
  rw [List.getElem?_map, List.getElem?_range hi] at h
  simp only [Option.map_some, Option.some.injEq] at h
  rw [← h, List.getD_eq_getElem?_getD, List.getElem?_eq_getElem hk]
  rfl
theorem turned_lines (many t : Int) (gs : List Gate) : (turnedM many gs t).lines = many + gs.length := by
  unfold Plan.lines turnedM
  simp
theorem turned_len (many t : Int) (gs : List Gate) : (turnedM many gs t).gates.length = gs.length := by
  unfold turnedM
  simp
theorem moved_in {many n t s : Int} (hn : 0 < n) (h0 : 0 ≤ s) (h1 : s < many + n) (hm : 0 ≤ many) : 0 ≤ moved many n t s ∧ moved many n t s < many + n := by
  unfold moved
  split
  · have := placeOf_in (k := s - many) (t := t) hn
    omega
  · omega
theorem turned_gate {many t lines : Int} {n i : Nat} {g : Gate} (hm : 0 ≤ many) (h : GoodAt many i g) (hi : i < n) (hl : many + n ≤ lines) : errGate (turnGate many n t g) lines = none := by
  obtain ⟨⟨lo, hi', hw, hlo, hhi⟩, _, hd⟩ := gate_ok (h.ok _ (Int.le_refl _))
  refine gate_err (lo := lo) (hi := hi') hw (by unfold turnGate; simp only [List.length_map]; exact ⟨hlo, hhi⟩) (fun s hs => ?_) hd
  obtain ⟨s', hs', rfl⟩ := List.mem_map.mp hs
  have := h.lo s' hs'
  have := moved_in (many := many) (n := n) (t := t) (s := s') (by omega) (by omega) (by omega) hm
  omega
theorem turned_valid {many t : Int} {gs : List Gate} (hm : 0 ≤ many) (hm2 : many ≤ 60) (hl : gs.length ≤ 200) (h : Good many gs) : Valid (turnedM many gs t) := by
  refine ⟨hm, hm2, by rw [turned_len]; exact hl, fun g hg => ?_⟩
  obtain ⟨i, hi1, hi2⟩ := List.getElem_of_mem hg
  obtain ⟨k, x, hk, _, rfl, _⟩ := turned_get (i := i) (by rw [List.getElem?_eq_getElem hi1, hi2])
  exact turned_gate hm (h k x hk) (List.getElem?_eq_some_iff.mp hk).1 (by rw [turned_lines]; omega)
theorem turned_free {many t : Int} {gs : List Gate} (hm : 0 ≤ many) (h : Good many gs) : Free (turnedM many gs t) := by
  refine ⟨fun l => if l < many then 0 else (invOf (l - many) gs.length t).toNat + 1, fun i g hg s hs => ?_⟩
  obtain ⟨k, x, hk, hki, rfl, hi⟩ := turned_get hg
  obtain ⟨s', hs', rfl⟩ := List.mem_map.mp hs
  have hlo := (h k x hk).lo s' hs'
  have hkl := (List.getElem?_eq_some_iff.mp hk).1
  have e1 : ¬ ((turnedM many gs t).many + (i : Int) < many) := by show ¬ (many + (i : Int) < many); omega
  have e2 : (turnedM many gs t).many + (i : Int) - many = i := by show many + (i : Int) - many = i; omega
  simp only [if_neg e1, e2, ← hki]
  unfold moved
  by_cases c : many ≤ s'
  · rw [if_pos c]
    have hp := placeOf_in (k := s' - many) (t := t) (show (0 : Int) < gs.length by omega)
    rw [if_neg (by omega), show many + placeOf (s' - many) gs.length t - many = placeOf (s' - many) gs.length t by omega, inv_place (by omega) (by omega)]
    omega
  · rw [if_neg c, if_pos (by omega)]
    omega
theorem turned_str {many t : Int} {gs : List Gate} (h : Good many gs) : ∀ g ∈ (turnedM many gs t).gates, PyData.strOk g.kind = true := fun g hg => by
  obtain ⟨i, hi1, hi2⟩ := List.getElem_of_mem hg
  obtain ⟨k, x, hk, _, rfl, _⟩ := turned_get (i := i) (by rw [List.getElem?_eq_getElem hi1, hi2])
  exact (h k x hk).str
def freePlan (ns : List Int) (most : Int) : Plan := turnedM (manyOf (cell ns 0)) (gatesBy ns (manyOf (cell ns 0)) most) (cell ns 2)
theorem free_ok {ns : List Int} {most : Int} (hn : ns.length ≤ 63) (h0 : 0 < most) (h1 : most ≤ 60) : Valid (freePlan ns most) ∧ Free (freePlan ns most) ∧ ∀ g ∈ (freePlan ns most).gates, PyData.strOk g.kind = true := by
  obtain ⟨m0, m1⟩ := manyOf_in (cell ns 0)
  have hg := good_gatesBy (ns := ns) (most := most) m0 h0 h1
  exact ⟨turned_valid m0 m1 (gatesBy_len hn) hg, turned_free m0 hg, turned_str hg⟩

/-! ### late times -/
def gateN (p : Plan) (l : Int) : Gate := p.gates.getD (l - p.many).toNat ⟨"", [], 0⟩
/-- what a line's number is, by the others' -/
def dueOf (p : Plan) (ts : List Int) (l : Int) : Int :=
  if (gateN p l).srcs = [] then 0 else (gateN p l).delay + maxOr 0 ((gateN p l).srcs.map fun s => ts.getD s.toNat 0)
def lateStep (p : Plan) (ts : List Int) (l : Int) : List Int := if (gateN p l).srcs = [] then ts else ts.set l.toNat (dueOf p ts l)
def lateBy (p : Plan) (ls : List Int) : List Int := ls.foldl (lateStep p) (List.replicate p.lines.toNat 0)
def lateM (p : Plan) : Except Err (List Int) := match orderM p with
  | .error e => .error e
  | .ok f => .ok (lateBy p f)
theorem lateBy_snoc (p : Plan) (ls : List Int) (l : Int) : lateBy p (ls ++ [l]) = lateStep p (lateBy p ls) l := by
  unfold lateBy; rw [List.foldl_append]; rfl
theorem lateStep_len (p : Plan) (ts : List Int) (l : Int) : (lateStep p ts l).length = ts.length := by
  unfold lateStep
  split
  · rfl
  · exact List.length_set
theorem lateF_len (p : Plan) : ∀ (ls ts : List Int), (ls.foldl (lateStep p) ts).length = ts.length := fun ls => by
  induction ls with
  | nil => intro ts; rfl
  | cons l r ih => intro ts; rw [List.foldl_cons, ih, lateStep_len]
theorem lateBy_len (p : Plan) (ls : List Int) : (lateBy p ls).length = p.lines.toNat := by
  unfold lateBy
  rw [lateF_len, List.length_replicate]
theorem getD_set_ne {α : Type} {d : List α} {i j : Nat} {b x : α} (h : i ≠ j) : (d.set i b).getD j x = d.getD j x := by
  rw [List.getD_eq_getElem?_getD, List.getElem?_set, if_neg h, ← List.getD_eq_getElem?_getD]
theorem getD_set_eq {α : Type} {d : List α} {i : Nat} {b x : α} (h : i < d.length) : (d.set i b).getD i x = b := by
  rw [List.getD_eq_getElem?_getD, List.getElem?_set]; simp [h]
theorem lateF_keep (p : Plan) (k : Nat) : ∀ (ls ts : List Int), (∀ l ∈ ls, l.toNat ≠ k) → (ls.foldl (lateStep p) ts).getD k 0 = ts.getD k 0
  | [], _, _ => rfl
  | l :: r, ts, h => by
    rw [List.foldl_cons, lateF_keep p k r _ fun x hx => h x (List.mem_cons_of_mem _ hx)]
    unfold lateStep
    split
    · rfl
    · exact getD_set_ne (h l List.mem_cons_self)
theorem replicate_getD (n k : Nat) : (List.replicate n (0 : Int)).getD k 0 = 0 := by
  rw [List.getD_eq_getElem?_getD, List.getElem?_replicate]
  split <;> rfl
/-! a plan's order, told -/
theorem order_ok {p : Plan} {f : List Int} (h : orderM p = .ok f) : Valid p ∧ f = (goneM p).1 ∧ (goneM p).1.length = p.gates.length := by
  unfold orderM at h
  cases e : errPlan p with
  | some x => rw [e] at h; cases h
  | none =>
    rw [e] at h
    have v := valid_iff.mp e
    by_cases c : (goneM p).1.length < p.gates.length
    · simp only [if_pos c] at h; cases h
    · simp only [if_neg c] at h
      cases h
      obtain ⟨gi, _⟩ := gone_inv v.m0
      exact ⟨v, rfl, by have := gi.cnt; omega⟩
theorem cntF_zero' : ∀ {d : List Bool}, cntF d = 0 → ∀ i, i < d.length → d.getD i false = true
  | [], _, i, h => by simp at h
  | b :: r, h, i, hi => by
    cases b with
    | false => simp [cntF] at h
    | true =>
      cases i with
      | zero => rfl
      | succ i => exact cntF_zero' (d := r) (by simpa [cntF] using h) i (by simpa using hi)
/-- all gates' lines stand in it, once -/
theorem order_mem {p : Plan} {f : List Int} (h : orderM p = .ok f) : f.Nodup ∧ ∀ l : Int, l ∈ f ↔ p.many ≤ l ∧ l < p.lines := by
  obtain ⟨v, rfl, hl⟩ := order_ok h
  obtain ⟨gi, _⟩ := gone_inv v.m0
  refine ⟨gi.nd, fun l => ?_⟩
  rw [gi.fnd l]
  constructor
  · exact fun ⟨a, b, _⟩ => ⟨a, b⟩
  · rintro ⟨a, b⟩
    refine ⟨a, b, cntF_zero' (by have := gi.cnt; omega) _ ?_⟩
    have := gi.len
    have := v.m0
    omega
theorem doneBy_get {p : Plan} {s : Int} (h0 : 0 ≤ s) : ∀ (ls : List Int) (d : List Bool), (∀ l ∈ ls, 0 ≤ l) → (doneBy d ls).getD s.toNat false = true → d.getD s.toNat false = true ∨ s ∈ ls
  | [], _, _, h => .inl h
  | l :: r, d, hp, h => by
    have l0 := hp l List.mem_cons_self
    rcases doneBy_get (p := p) h0 r (d.set l.toNat true) (fun x hx => hp x (List.mem_cons_of_mem _ hx)) h with q | q
    · by_cases c : l.toNat = s.toNat
      · exact .inr (by rw [show s = l by omega]; exact List.mem_cons_self)
      · exact .inl (by rw [getD_set_ne c] at q; exact q)
    · exact .inr (List.mem_cons_of_mem _ q)
/-- each line's sources are inputs or stand ahead of it -/
theorem order_srcs {p : Plan} {f : List Int} (h : orderM p = .ok f) {i : Nat} {l : Int} (hl : f[i]? = some l) : ∀ s ∈ (gateN p l).srcs, 0 ≤ s ∧ s < p.lines ∧ (s < p.many ∨ s ∈ f.take i) := by
  obtain ⟨v, rfl, _⟩ := order_ok h
  obtain ⟨gi, _⟩ := gone_inv v.m0
  obtain ⟨j, g, hg, e, _, hs⟩ := ready_some (gone_steps p i l hl)
  intro s hss
  have eg : gateN p l = g := by
    unfold gateN
    rw [List.getD_eq_getElem?_getD, show (l - p.many).toNat = j by omega, hg]; rfl
  rw [eg] at hss
  obtain ⟨_, hsr, _⟩ := gate_ok (v.gate g (List.mem_of_getElem? hg))
  obtain ⟨s0, s1⟩ := hsr s hss
  refine ⟨s0, s1, ?_⟩
  rcases doneBy_get (p := p) s0 _ _ (fun x hx => by have := ((gi.fnd x).mp (List.mem_of_mem_take hx)).1; have := v.m0; omega) (okSrcs_iff.mp hs s hss) with q | q
  · rw [done0_get (by omega)] at q
    have := of_decide_eq_true q
    left; omega
  · exact .inr q
/-- what late tells -/
theorem late_law {p : Plan} {f : List Int} (h : orderM p = .ok f) {l : Int} (l0 : 0 ≤ l) (l1 : l < p.lines) : (lateBy p f).getD l.toNat 0 = if l < p.many then 0 else dueOf p (lateBy p f) l := by
  obtain ⟨v, hf, _⟩ := order_ok h
  obtain ⟨nd, hm⟩ := order_mem h
  have m0 := v.m0
  have pos : ∀ x ∈ f, 0 ≤ x := fun x hx => by have := ((hm x).mp hx).1; omega
  by_cases c : l < p.many
  · rw [if_pos c]
    unfold lateBy
    rw [lateF_keep p _ f _ fun x hx => by have := ((hm x).mp hx).1; omega, replicate_getD]
  · rw [if_neg c]
    obtain ⟨i, hi, hil⟩ := List.getElem_of_mem ((hm l).mpr ⟨by omega, l1⟩)
    have hl : f[i]? = some l := by rw [List.getElem?_eq_getElem hi, hil]
    have hsp : f = f.take i ++ l :: f.drop (i + 1) := by
      have : f.drop i = l :: f.drop (i + 1) := by rw [List.drop_eq_getElem_cons hi, hil]
      rw [← this, List.take_append_drop]
    have nd2 := nd
    rw [hsp, List.nodup_append] at nd2
    obtain ⟨_, nd3, nd4⟩ := nd2
    obtain ⟨nd5, _⟩ := List.nodup_cons.mp nd3
    have e1 : lateBy p f = (f.drop (i + 1)).foldl (lateStep p) (lateStep p (lateBy p (f.take i)) l) := by
      conv => lhs; rw [hsp]
      unfold lateBy
      rw [List.foldl_append, List.foldl_cons]
    have restd : ∀ x ∈ f.drop (i + 1), 0 ≤ x := fun x hx => pos x (List.mem_of_mem_drop hx)
    have k1 : (lateBy p f).getD l.toNat 0 = (lateStep p (lateBy p (f.take i)) l).getD l.toNat 0 := by
      rw [e1]
      exact lateF_keep p _ _ _ fun x hx hxe => nd5 (by have := restd x hx; rw [show l = x by omega]; exact hx)
    have k0 : (lateBy p (f.take i)).getD l.toNat 0 = 0 := by
      unfold lateBy
      rw [lateF_keep p _ (f.take i) _ fun x hx hxe => ?_, replicate_getD]
      have := pos x (List.mem_of_mem_take hx)
      exact nd4 x hx l List.mem_cons_self (by omega)
    have hsr := order_srcs h hl
    have ks : ∀ s ∈ (gateN p l).srcs, (lateBy p f).getD s.toNat 0 = (lateBy p (f.take i)).getD s.toNat 0 := fun s hs => by
      obtain ⟨s0, s1, hd⟩ := hsr s hs
      have ns : ∀ x ∈ l :: f.drop (i + 1), x.toNat ≠ s.toNat := fun x hx hxe => by
        have x0 : 0 ≤ x := by
          rcases List.mem_cons.mp hx with rfl | hx
          · exact l0
          · exact restd x hx
        rcases hd with hd | hd
        · have : p.many ≤ x := by
            rcases List.mem_cons.mp hx with rfl | hx
            · omega
            · exact ((hm x).mp (List.mem_of_mem_drop hx)).1
          omega
        · exact nd4 s hd x hx (by omega)
      rw [e1, ← List.foldl_cons (f := lateStep p)]
      exact lateF_keep p _ _ _ ns
    have kd : dueOf p (lateBy p f) l = dueOf p (lateBy p (f.take i)) l := by
      unfold dueOf
      rw [List.map_congr_left ks]
    rw [k1, kd]
    unfold lateStep
    by_cases c2 : (gateN p l).srcs = []
    · rw [if_pos c2, k0]
      unfold dueOf
      rw [if_pos c2]
    · rw [if_neg c2, getD_set_eq]
      rw [lateBy_len]; omega
theorem maxOr_ge : ∀ {ns : List Int}, (∀ y ∈ ns, 0 ≤ y) → 0 ≤ maxOr 0 ns
  | [], _ => Int.le_refl _
  | n :: r, h => h _ (maxOr_spec (n := n) r).1
theorem lateF_pos {p : Plan} (hd : ∀ g ∈ p.gates, 0 ≤ g.delay) : ∀ (ls ts : List Int), (∀ y ∈ ts, 0 ≤ y) → ∀ y ∈ ls.foldl (lateStep p) ts, 0 ≤ y
  | [], _, h => h
  | l :: r, ts, h => by
    refine lateF_pos hd r _ fun y hy => ?_
    unfold lateStep at hy
    split at hy
    · exact h y hy
    · rcases List.mem_or_eq_of_mem_set hy with hy | rfl
      · exact h y hy
      · unfold dueOf
        rename_i c
        rw [if_neg c]
        have h1 : 0 ≤ (gateN p l).delay := by
          unfold gateN
          rw [List.getD_eq_getElem?_getD]
          cases e : p.gates[(l - p.many).toNat]? with
          | none => exact Int.le_refl _
          | some g => exact hd g (List.mem_of_getElem? e)
        have h2 : 0 ≤ maxOr 0 ((gateN p l).srcs.map fun s => ts.getD s.toNat 0) := maxOr_ge fun y hy => by
          obtain ⟨s, _, rfl⟩ := List.mem_map.mp hy
          rw [List.getD_eq_getElem?_getD]
          cases e : ts[s.toNat]? with
          | none => exact Int.le_refl _
          | some g => exact h g (List.mem_of_getElem? e)
        omega
theorem late_pos {p : Plan} (v : Valid p) (f : List Int) : ∀ y ∈ lateBy p f, 0 ≤ y :=
  lateF_pos (fun g hg => by obtain ⟨_, _, h, _⟩ := gate_ok (v.gate g hg); omega) f _ fun y hy => by rw [List.eq_of_mem_replicate hy]; exact Int.le_refl _
def mx2 (i j : Int) : Int := if j > i then j else i
theorem mx2_fold : ∀ (ns : List Int) (a : Int), (ns.foldl mx2 a = a ∨ ns.foldl mx2 a ∈ ns) ∧ a ≤ ns.foldl mx2 a ∧ ∀ y ∈ ns, y ≤ ns.foldl mx2 a
  | [], a => ⟨.inl rfl, Int.le_refl _, fun y hy => by cases hy⟩
  | n :: r, a => by
    rw [List.foldl_cons]
    obtain ⟨h1, h2, h3⟩ := mx2_fold r (mx2 a n)
    have k : mx2 a n = a ∨ mx2 a n = n := by unfold mx2; split <;> simp
    have k1 : a ≤ mx2 a n := by unfold mx2; split <;> omega
    have k2 : n ≤ mx2 a n := by unfold mx2; split <;> omega
    refine ⟨?_, by omega, fun y hy => ?_⟩
    · rcases h1 with h1 | h1
      · rcases k with k | k
        · left; omega
        · right; rw [h1, k]; exact List.mem_cons_self
      · right; exact List.mem_cons_of_mem _ h1
    · rcases List.mem_cons.mp hy with rfl | hy
      · omega
      · exact h3 y hy
theorem mx2_max {ns : List Int} (h : ∀ y ∈ ns, 0 ≤ y) : ns.foldl mx2 0 = maxOr 0 ns := by
  cases ns with
  | nil => rfl
  | cons n r =>
    obtain ⟨h1, h2, h3⟩ := mx2_fold (n :: r) 0
    refine maxOr_un ?_ h3
    rcases h1 with h1 | h1
    · have := h3 n List.mem_cons_self
      have := h n List.mem_cons_self
      have e : (n :: r).foldl mx2 0 = n := by omega
      rw [e]; exact List.mem_cons_self
    · exact h1

/-! ### try, except -/
def rIsX (K : PySem.W.Frag) (cls : Value) (d : Option Addr) (a : Addr) : List V → Hp → VK → Prop := fun xs H Q => ∃ C, cls = .ref C ∧ d = none ∧ ExcC K C ∧ rIsE K C a xs H Q
theorem call_isX (K : PySem.W.Frag) {X : Cx} {a : Addr} {cls : Value} {d : Option Addr} {oe : Obj} {pn : List (Addr × Obj)} (hz : Zc cls d oe) (hf : ∃ vs, oe.data = .fields vs) (h : X.K = K := by rfl) : CallR (X.suite a ((a, oe) :: pn)) (.builtin "isinstance") (rIsX K cls d a) := by
  subst h
  intro pins s σ H xs us Q I r h
  obtain ⟨C, rfl, rfl, hC, h⟩ := h
  exact call_isE hC hz hf pins s σ H xs us Q I r h
section
variable {K : PySem.W.Frag} {σ : L2.St} {G H : Hp} {ta tb te tl : TE} {t : TT} {v : V} {D : Ends} {tu tw tz : TS} {ts : Addr → Value → Option Addr → TS} {i : Nat} {W : WX} {tB : WX → TS} {c cls : Value} {d : Option Addr} {a C : Addr} {b : Bool}
theorem ev_isX (ha : Ev ta σ G (.ref a)) (hb : Ev tb σ G v) (hC : ExcC K C) (hv : ∀ u, RelV v u → u = c) (hk : PySem.W.kitOne K (.ref C) c = some b) : Ev (tCB (rIsX K (.ref C) none a) (tCons ta (tCons tb tNil))) σ G (.bl b) := fun H e Q q =>
  ha H e _ fun H1 e1 => hb H1 (e.trans e1) _ fun H2 e2 => ⟨C, rfl, rfl, hC, v, c, b, rfl, hv, hk, q H2 (e1.trans e2)⟩
theorem go_tryO (h : Go (tB (wOnly K c ts W { D with nx := tz D })) { D with nx := tz D } σ G) : Go (tSeq (fun D σ H => tB (wOnly K c ts W D) D σ H) tz) D σ G := h
theorem go_tryA (h : Go (tB (wAs K c i ts W { D with nx := tz D })) { D with nx := tz D } σ G) : Go (tSeq (fun D σ H => tB (wAs K c i ts W D) D σ H) tz) D σ G := h
/-- the clause takes it -/
theorem wo_hit (h : PySem.W.exmOne K cls c = some true) (e : Ex G H) (k : ∀ a, G a = none → Go (ts a cls d) D σ G) : wOnly K c ts W D cls d σ H :=
  ⟨true, h, fun _ a ha => k a (e.none ha) H e, fun z => (by cases z)⟩
theorem wo_miss (h : PySem.W.exmOne K cls c = some false) (k : W cls d σ H) : wOnly K c ts W D cls d σ H := ⟨false, h, fun z => (by cases z), fun _ => k⟩
theorem wa_hit (h : PySem.W.exmOne K cls c = some true) (e : Ex G H) (k : ∀ a, G a = none → Go (ts a cls d) { nx := fun σ' H' => D.nx (σ'.set i none) H', rt := D.rt, bk := fun σ' H' => D.bk (σ'.set i none) H', ct := fun σ' H' => D.ct (σ'.set i none) H' } (σ.set i (some (.ref a))) G) : wAs K c i ts W D cls d σ H :=
  ⟨true, h, fun _ a ha => k a (e.none ha) H e, fun z => (by cases z)⟩
end
theorem exm_of {K : PySem.W.Frag} {C S : Addr} {b : Bool} (h1 : PySem.W.subIn K (.ref S) (.type "BaseException") = some true) (h2 : PySem.W.isClsIn K S = true) (h3 : PySem.W.typeIn K (.ref S) = some (.type "type")) (h4 : PySem.W.subIn K (.ref C) (.ref S) = some b) :
    PySem.W.exmOne K (.ref C) (.ref S) = some b := by
  have e1 : (PySem.W.subIn K (.ref S) (.type "BaseException") == some true) = true := by rw [h1] <;> rfl
  have e2 : ((PySem.W.clsIn K S).isSome && PySem.W.typeIn K (.ref S) == some (.type "type")) = true := by
    have h2' : (PySem.W.clsIn K S).isSome = true := h2
    rw [h2', h3] <;> rfl
  show (if (PySem.W.subIn K (.ref S) (.type "BaseException") == some true) = true then (if ((PySem.W.clsIn K S).isSome && PySem.W.typeIn K (.ref S) == some (.type "type")) = true then PySem.W.subIn K (.ref C) (.ref S) else none) else none) = some b
  rw [if_pos e1, if_pos e2]
  exact h4
theorem kit_ref {K : PySem.W.Frag} {C S : Addr} {b : Bool} (h2 : PySem.W.isClsIn K S = true) (h3 : PySem.W.typeIn K (.ref S) = some (.type "type")) (h4 : PySem.W.subIn K (.ref C) (.ref S) = some b) (hb : (Value.ref C == Value.ref S) = true → b = true) :
    PySem.W.kitOne K (.ref C) (.ref S) = some b := by
  unfold PySem.W.kitOne
  split
  · rename_i h; rw [hb h]
  · have h2' : (PySem.W.clsIn K S).isSome = true := h2
    show (if ((PySem.W.clsIn K S).isSome && PySem.W.typeIn K (.ref S) == some (.type "type")) = true then PySem.W.subIn K (.ref C) (.ref S) else none) = some b
    rw [if_pos (by rw [h2', h3] <;> rfl)]
    exact h4
theorem kit_ve {K : PySem.W.Frag} {C : Addr} {b : Bool} (h4 : PySem.W.subIn K (.ref C) (.type "ValueError") = some b) : PySem.W.kitOne K (.ref C) (.type "ValueError") = some b := by
  unfold PySem.W.kitOne
  split
  · rename_i h; cases h
  · show (if PySem.W.kitMeta "ValueError" = true then PySem.W.subIn K (.ref C) (.type "ValueError") else none) = some b
    rw [if_pos (by decide +kernel)]
    exact h4
section
variable {σ : L2.St} {G : Hp} {ta : TE} {D' : Ends} {tz : TS} {i : Nat} {rt : VK} {bk ct : L2.St → Hp → Prop} {k : Bool}
theorem go_upA (h : Go tz D' (σ.set i none) G) : Go tNext ⟨fun σ' H' => tz D' (σ'.set i none) H', rt, bk, ct⟩ σ G := h
theorem ev_intB (h : Ev ta σ G (.bl k)) : Ev (tCB rInt1 (tCons ta tNil)) σ G (.int (if k then 1 else 0)) := fun H e Q q => h H e _ fun H1 e1 => .inr ⟨k, rfl, q H1 e1⟩
end
theorem go_raw {ts tz : TS} {D : Ends} {σ : L2.St} {G : Hp} (h : ∀ H, Ex G H → ts { D with nx := tz D } σ H) : Go (tSeq ts tz) D σ G := h
theorem Go.app {ts : TS} {D : Ends} {σ : L2.St} {G H : Hp} (h : Go ts D σ G) (e : Ex G H) : ts D σ H := h H e
section
variable {K : PySem.W.Frag} {σ : L2.St} {G : Hp} {ta tb : TE} {tA : TA} {sp : Sp} {E : L2.St → XK} {z : V} {xs ys : List V}
theorem ev_callP {A : List V → Hp → Prop} (h : EvAP tA σ G A) (hs : ∀ vs G', Ex G G' → A vs G' → SpV sp vs G' z) : Ev (tCallS sp E tA) σ G z := fun H e Q q =>
  h H e _ fun vs G1 H1 g1 g2 e1 p => hs vs G1 g1 p H1 g2 Q (fun H2 e2 => q H2 (e1.trans e2)) (E σ)
theorem eap_LL (h : EvL ta σ G xs) (h2 : EvL tb σ G ys) : EvAP (tCons ta (tCons tb tNil)) σ G fun vs G' => ∃ p q, vs = [.ref p, .ref q] ∧ G' p = some (.lst xs) ∧ G' q = some (.lst ys) := fun H e Q q =>
  h H e _ fun p H1 _ e1 h1 => h2 H1 (e.trans e1) _ fun p2 H2 _ e2 k2 => q [.ref p, .ref p2] H2 H2 ((e.trans e1).trans e2) (Ex.refl _) (e1.trans e2) ⟨p, p2, rfl, e2 _ _ h1, k2⟩
end

/-! ### comprehensions whose elements are made on the way -/
def Cp {β : Type} (H : Hp) (R : Hp → V → β → Prop) (bs : List β) (Dl : Addr) (i : Nat) (H' : Hp) : Prop := H Dl = none ∧ Ex H H' ∧ ∃ ws, H' Dl = some (.lst ws) ∧ Rows (R H') ws (bs.take i)
/-- what is said of the elements lasts: while the heap grows, while lists change -/
structure Lasts {β : Type} (R : Hp → V → β → Prop) : Prop where
  mono : ∀ v b H H', Ex H H' → R H v b → R H' v b
  put : ∀ v b H l ys o, H l = some (.lst ys) → R H v b → R (upd H l o) v b
section
variable {β : Type} {K : PySem.W.Frag} {σ : L2.St} {G H : Hp} {ta te tl : TE} {j : Nat} {vs : List Nat} {R : Hp → V → β → Prop} {bs : List β}
theorem cp_turn (L : Lasts R) {H' : Hp} {Dl : Addr} {i : Nat} {b : β} {σ2 : L2.St} (p : Cp H R bs Dl i H') (hi : bs[i]? = some b) (hz : bs.length ≤ 40000) (he : EvP te σ2 H fun v G' => R G' v b) :
    tYes σ2 H' fun b H3 => if b = true then te σ2 H3 fun y H4 => ∃ acc, H4 Dl = some (.lst acc) ∧ acc.length < sizeLine ∧ Cp H R bs Dl (i + 1) (upd H4 Dl (.lst (acc ++ [y]))) else Cp H R bs Dl (i + 1) H3 := by
  obtain ⟨p1, p2, ws, p3, p4⟩ := p
  show te σ2 H' fun y H4 => ∃ acc, H4 Dl = some (.lst acc) ∧ acc.length < sizeLine ∧ Cp H R bs Dl (i + 1) (upd H4 Dl (.lst (acc ++ [y])))
  refine he H' p2 _ fun v G' H4 _ g2 e4 hv => ?_
  have hD := e4 Dl _ p3
  refine ⟨ws, hD, sz_lt (by have := p4.1; rw [List.length_take] at this; omega), p1, Ex.mut (p2.trans e4) p1, ws ++ [v], upd_same, ?_⟩
  rw [List.take_add_one, hi]
  show Rows _ _ (bs.take i ++ [b])
  exact rows_snoc (rows_imp p4 fun x y r => L.put _ _ _ _ _ _ hD (L.mono _ _ _ _ e4 r)) (L.put _ _ _ _ _ _ hD (L.mono _ _ _ _ g2 hv))
theorem cp_end {H0 : Hp} {Dl : Addr} {n : Nat} {Q : VK} (e : Ex H0 H) (hn : n = bs.length) (q : ∀ v G' H', Ex H0 G' → Ex G' H' → (∃ p ws, v = .ref p ∧ H0 p = none ∧ G' p = some (.lst ws) ∧ Rows (R G') ws bs) → Q v H') (H' : Hp) (p : Cp H R bs Dl n H') : Q (.ref Dl) H' := by
  obtain ⟨p1, p2, ws, p3, p4⟩ := p
  refine q _ H' H' (e.trans p2) (Ex.refl _) ⟨Dl, ws, rfl, e.none p1, p3, ?_⟩
  rw [hn, List.take_length] at p4
  exact p4
abbrev LstOf (R : Hp → V → β → Prop) (G : Hp) (bs : List β) (v : V) (G' : Hp) : Prop := ∃ p ws, v = .ref p ∧ G p = none ∧ G' p = some (.lst ws) ∧ Rows (R G') ws bs
theorem ep_lcP {α : Type} (as : List α) (inj : α → V) (f : α → β) (L : Lasts R) {a : Addr} (h : Ev tl σ G (.ref a)) (hx : SqL K G a (as.map inj)) (hz : as.length ≤ 40000) (hw : ∀ x, wipe ((wipe σ vs).set j (some x)) vs = wipe σ vs)
    (he : ∀ x, x ∈ as → EvP te ((wipe σ vs).set j (some (inj x))) G fun v G' => R G' v (f x)) : EvP (tLc (iList K tl) (gName j) tYes te vs) σ G (LstOf R G (as.map f)) := fun H0 e Q q => h H0 e _ fun H1 e1 =>
  ⟨a, rfl, ⟨_, ex_l (e.trans e1) hx⟩, fun Dl hD => lc_list (xs := as.map inj) (Cp H1 R (as.map f) Dl) ⟨hD, Ex.new hD, [], upd_same, rows_nil⟩ (fun i H' _ p => ex_l ((e.trans e1).trans p.2.1) hx)
    (fun i x H' hi p => by
      rw [List.getElem?_map] at hi
      cases hc : as[i]? with
      | none => rw [hc] at hi; cases hi
      | some c =>
        rw [hc] at hi
        cases hi
        exact ⟨hw _, cp_turn L p (b := f c) (by rw [List.getElem?_map, hc]; rfl) (by rw [List.length_map]; exact hz) fun H2 e2 Q q => he c (List.mem_of_getElem? hc) H2 ((e.trans e1).trans e2) Q fun v G' H' g1 g2 e3 p => q v H' H' (e2.trans e3) (Ex.refl _) e3 (L.mono _ _ _ _ g2 p)⟩)
    (fun H' p => cp_end (Ex.refl H1) (by rw [List.length_map, List.length_map]) (fun v G' H' g1 g2 ⟨p, ws, r1, r2, r3, r4⟩ => q v G' H' ((e.trans e1).trans g1) g2 ((e1.trans g1).trans g2) ⟨p, ws, r1, (e.trans e1).none r2, r3, r4⟩) H' p)⟩
theorem ep_lcPN {α : Type} (as : List α) (inj : α → V) (f : α → β) (L : Lasts R) (h : EvL tl σ G (as.map inj)) (hz : as.length ≤ 40000) (hw : ∀ x, wipe ((wipe σ vs).set j (some x)) vs = wipe σ vs)
    (he : ∀ x, x ∈ as → EvP te ((wipe σ vs).set j (some (inj x))) G fun v G' => R G' v (f x)) : EvP (tLc (iList K tl) (gName j) tYes te vs) σ G (LstOf R G (as.map f)) := fun H0 e Q q => h H0 e _ fun a H1 ha e1 hx =>
  ⟨a, rfl, ⟨_, sq_of hx⟩, fun Dl hD => lc_list (xs := as.map inj) (Cp H1 R (as.map f) Dl) ⟨hD, Ex.new hD, [], upd_same, rows_nil⟩ (fun i H' _ p => sq_of (p.2.1 a _ hx))
    (fun i x H' hi p => by
      rw [List.getElem?_map] at hi
      cases hc : as[i]? with
      | none => rw [hc] at hi; cases hi
      | some c =>
        rw [hc] at hi
        cases hi
        exact ⟨hw _, cp_turn L p (b := f c) (by rw [List.getElem?_map, hc]; rfl) (by rw [List.length_map]; exact hz) fun H2 e2 Q q => he c (List.mem_of_getElem? hc) H2 ((e.trans e1).trans e2) Q fun v G' H' g1 g2 e3 p => q v H' H' (e2.trans e3) (Ex.refl _) e3 (L.mono _ _ _ _ g2 p)⟩)
    (fun H' p => cp_end (Ex.refl H1) (by rw [List.length_map, List.length_map]) (fun v G' H' g1 g2 ⟨p, ws, r1, r2, r3, r4⟩ => q v G' H' ((e.trans e1).trans g1) g2 ((e1.trans g1).trans g2) ⟨p, ws, r1, (e.trans e1).none r2, r3, r4⟩) H' p)⟩
theorem ep_lcPR {tA : TA} {n : Int} (f : Int → β) (L : Lasts R) (h : EvA tA σ G [.int n]) (hn : 0 ≤ n ∧ n ≤ 40000) (hw : ∀ x, wipe ((wipe σ vs).set j (some x)) vs = wipe σ vs)
    (he : ∀ k : Int, 0 ≤ k → k < n → EvP te ((wipe σ vs).set j (some (.int k))) G fun v G' => R G' v (f k)) : EvP (tLc (iRng1 tA) (gName j) tYes te vs) σ G (LstOf R G ((List.range n.toNat).map fun i : Nat => f (i : Int))) := fun H0 e Q q => h H0 e _ fun H1 e1 =>
  ⟨n, rfl, by omega, by omega, fun Dl hD => lc_range (lo := 0) (n := n.toNat) (Cp H1 R ((List.range n.toNat).map fun i : Nat => f (i : Int)) Dl) ⟨hD, Ex.new hD, [], upd_same, rows_nil⟩
    (fun i H' hi p => by
      have e0 : (0 : Int) + (i : Int) = (i : Int) := Int.zero_add _
      show wipe ((wipe σ vs).set j (some (.int ((0 : Int) + (i : Int))))) vs = wipe σ vs ∧ _
      rw [e0]
      exact ⟨hw _, cp_turn L p (b := f (i : Int)) (by rw [List.getElem?_map, List.getElem?_range hi]; rfl) (by rw [List.length_map, List.length_range]; omega) fun H2 e2 Q q => he (i : Int) (by omega) (by omega) H2 ((e.trans e1).trans e2) Q fun v G' H' g1 g2 e3 p => q v H' H' (e2.trans e3) (Ex.refl _) e3 (L.mono _ _ _ _ g2 p)⟩)
    (fun H' p => cp_end (Ex.refl H1) (by rw [List.length_map, List.length_range]) (fun v G' H' g1 g2 ⟨p, ws, r1, r2, r3, r4⟩ => q v G' H' ((e.trans e1).trans g1) g2 ((e1.trans g1).trans g2) ⟨p, ws, r1, (e.trans e1).none r2, r3, r4⟩) H' p)⟩
end
theorem lasts_gate (K : PySem.W.Frag) : Lasts (GateAt K) := ⟨fun _ _ _ _ e h => h.mono e, fun _ _ _ _ _ _ hl h => h.put hl⟩

/-! ### the laws' plans of any lines -/
def ringGates (many : Int) (n : Int) : List Gate := (List.range n.toNat).map fun k : Nat => ⟨"not", [many + ((k : Int) + 1) % n], 1⟩
def looseCells (ns : List Int) : List Int := if cell ns 1 % 8 = 5 then ((List.range (60 + cell ns 1 / 8 % 131).toNat).map fun k : Nat => cell ns 1 / 8 + 5 * (k : Int)) ++ (ns.drop 3).take 10 else (ns.drop 3).take 200
def looseGates (ns : List Int) (many most : Int) : List Gate :=
  if cell ns 1 % 8 = 2 then ringGates many (60 + cell ns 1 / 8 % 131) ++ ((ns.drop 3).take 10).map fun c => gateBy c (many + (60 + cell ns 1 / 8 % 131)) most
  else (looseCells ns).map fun c => gateBy c (many + (looseCells ns).length) most
def looseP (ns : List Int) (many most : Int) : Plan := ⟨many, looseGates ns many most⟩
def planBy (ns : List Int) (most : Int) : Plan := if cell ns 1 % 3 > 0 then looseP ns (manyOf (cell ns 0)) most else freePlan ns most
theorem looseCells_len {ns : List Int} (h : ns.length ≤ 63) : (looseCells ns).length ≤ 200 := by
  unfold looseCells
  split
  · rw [List.length_append, List.length_map, List.length_range, List.length_take, List.length_drop]
    omega
  · rw [List.length_take]; omega
theorem loose_len {ns : List Int} {many most : Int} (h : ns.length ≤ 63) : (looseGates ns many most).length ≤ 200 := by
  unfold looseGates
  split
  · unfold ringGates
    rw [List.length_append, List.length_map, List.length_range, List.length_map, List.length_take, List.length_drop]
    omega
  · rw [List.length_map]; exact looseCells_len h
theorem loose_ok {ns : List Int} {many most : Int} (h : ns.length ≤ 63) (m0 : 0 ≤ many) (m1 : many ≤ 60) (h0 : 0 < most) (h1 : most ≤ 60) : Valid (looseP ns many most) ∧ ∀ g ∈ (looseP ns many most).gates, PyData.strOk g.kind = true := by
  have main : ∀ g ∈ looseGates ns many most, errGate g (many + (looseGates ns many most).length) = none ∧ PyData.strOk g.kind = true := by
    intro g hg
    by_cases c : cell ns 1 % 8 = 2
    · have e : looseGates ns many most = ringGates many (60 + cell ns 1 / 8 % 131) ++ ((ns.drop 3).take 10).map fun c => gateBy c (many + (60 + cell ns 1 / 8 % 131)) most := by unfold looseGates; rw [if_pos c]
      have hL : (60 + cell ns 1 / 8 % 131 : Int) ≤ (looseGates ns many most).length := by
        rw [e, List.length_append]
        unfold ringGates
        rw [List.length_map, List.length_range]
        omega
      generalize ((looseGates ns many most).length : Int) = len at hL ⊢
      rw [e] at hg
      rcases List.mem_append.mp hg with hg | hg
      · unfold ringGates at hg
        obtain ⟨k, hk, rfl⟩ := List.mem_map.mp hg
        have := List.mem_range.mp hk
        have a := Int.emod_nonneg ((k : Int) + 1) (show (60 + cell ns 1 / 8 % 131 : Int) ≠ 0 by omega)
        have b := Int.emod_lt_of_pos ((k : Int) + 1) (show (0 : Int) < 60 + cell ns 1 / 8 % 131 by omega)
        refine ⟨gate_err (lo := 1) (hi := 1) rfl ⟨by show (1 : Int) ≤ ((1 : Nat) : Int); decide, by show ((1 : Nat) : Int) ≤ 1; decide⟩ (fun s hs => ?_) ⟨by show (1 : Int) ≤ 1; decide, by show (1 : Int) ≤ 60; decide⟩, by show PyData.strOk "not" = true; decide +kernel⟩
        rcases List.mem_singleton.mp hs with rfl
        generalize ((k : Int) + 1) % (60 + cell ns 1 / 8 % 131) = r at *
        omega
      · obtain ⟨c, _, rfl⟩ := List.mem_map.mp hg
        have q := gateBy_ok (c := c) (below := many + (60 + cell ns 1 / 8 % 131)) (most := most) (lines := many + len) (by omega) (by omega) h0 h1
        exact ⟨q.1, q.2.2⟩
    · have e : looseGates ns many most = (looseCells ns).map fun c => gateBy c (many + (looseCells ns).length) most := by unfold looseGates; rw [if_neg c]
      rw [e] at hg ⊢
      rw [List.length_map]
      obtain ⟨c, _, rfl⟩ := List.mem_map.mp hg
      have q := gateBy_ok (c := c) (below := many + (looseCells ns).length) (most := most) (lines := many + (looseCells ns).length) (by omega) (Int.le_refl _) h0 h1
      exact ⟨q.1, q.2.2⟩
  exact ⟨⟨m0, m1, loose_len h, fun g hg => (main g hg).1⟩, fun g hg => (main g hg).2⟩
theorem planBy_ok {ns : List Int} {most : Int} (hn : ns.length ≤ 63) (h0 : 0 < most) (h1 : most ≤ 60) : Valid (planBy ns most) ∧ ∀ g ∈ (planBy ns most).gates, PyData.strOk g.kind = true := by
  obtain ⟨m0, m1⟩ := manyOf_in (cell ns 0)
  unfold planBy
  split
  · exact loose_ok hn m0 m1 h0 h1
  · exact ⟨(free_ok hn h0 h1).1, (free_ok hn h0 h1).2.2⟩
section
variable {K : PySem.W.Frag} {σ : L2.St} {G : Hp} {ta tb : TE} {β : Type} {R : Hp → V → β → Prop} {bs cs : List β} {a : Addr} {ws : List V}
/-- a list that stands + one that is made on the way -/
theorem ep_catR (L : Lasts R) (ha : Ev ta σ G (.ref a)) (hl : G a = some (.lst ws)) (hR : Rows (R G) ws bs) (hb : EvP tb σ G (LstOf R G cs)) (hz : bs.length + cs.length ≤ 100000) : EvP (tOp rCat ta tb) σ G (LstOf R G (bs ++ cs)) := fun H e Q q =>
  ha H e _ fun H1 e1 => hb H1 (e.trans e1) _ fun v G' H2 g1 g2 e2 ⟨p, zs, hv, hp, hG, hR2⟩ =>
    ⟨a, p, ws, zs, rfl, hv, e2 _ _ (e1 _ _ (e _ _ hl)), g2 _ _ hG, sz_of (by rw [hR.1, hR2.1]; omega), fun pn hpn => q _ (upd G' pn (.lst (ws ++ zs))) _ (g1.trans (Ex.new (g2.none hpn))) (Ex.put g2) ((e1.trans e2).trans (Ex.new hpn))
      ⟨pn, ws ++ zs, rfl, g1.none (g2.none hpn), upd_same, rows_append (rows_imp hR fun _ _ r => L.mono _ _ _ _ (g1.trans (Ex.new (g2.none hpn))) r) (rows_imp hR2 fun _ _ r => L.mono _ _ _ _ (Ex.new (g2.none hpn)) r)⟩⟩
/-- two new lists -/
theorem el_catN {xs ys : List V} (ha : EvL ta σ G xs) (hb : EvL tb σ G ys) (hz : xs.length + ys.length ≤ 100000) : EvL (tOp rCat ta tb) σ G (xs ++ ys) := fun H e Q q =>
  ha H e _ fun p H1 hp e1 h1 => hb H1 (e.trans e1) _ fun p2 H2 hp2 e2 h2 => ⟨p, p2, xs, ys, rfl, rfl, e2 _ _ h1, h2, sz_of hz, fun pn hpn => q pn _ (e1.none (e2.none hpn)) ((e1.trans e2).trans (Ex.new hpn)) upd_same⟩
/-- (many, gates), the list of them of which is said what they are -/
theorem ep_planP {p : Plan} (h1 : Ev ta σ G (.int p.many)) (h2 : EvP tb σ G (LstOf (GateAt K) G p.gates)) : EvP (tTup (tCons ta (tCons tb tNil))) σ G fun v G' => PlanAt K G' v p := fun H e Q q =>
  h1 H e _ fun H1 e1 => h2 H1 (e.trans e1) _ fun v G' H2 g1 g2 e2 ⟨g, vs, hv, hg, hl, hR⟩ =>
    ⟨sz_of (by show 2 ≤ 100000; decide), fun a ha => q _ (upd G' a (.tup [.int p.many, v])) _ (g1.trans (Ex.new (g2.none ha))) (Ex.put g2) ((e1.trans e2).trans (Ex.new ha))
      ⟨a, g, rfl, by rw [hv]; exact st_of upd_same, vs, ex_l (Ex.new (g2.none ha)) (sq_of hl), rows_imp hR fun _ _ r => r.mono (Ex.new (g2.none ha))⟩⟩
end
section
variable {K : PySem.W.Frag} {σ : L2.St} {G : Hp} {ta : TE} {D : Ends} {tz : TS} {i : Nat} {l : Addr} {xs : List V} {x : V}
/-- x = xs.pop() -/
theorem go_pop (ha : Ev ta σ G (.ref l)) (hl : G l = some (.lst (xs ++ [x]))) (k : Go tz D (σ.set i (some x)) (upd G l (.lst xs))) : Go (tSeq (tAsg (tBM0 K "list" rPop ta) (gName i)) tz) D σ G := fun H e => ha H e _ fun H1 e1 =>
  ⟨Or.inl ⟨rfl, _, sq_of (e1 l _ (e l _ hl))⟩, l, xs ++ [x], x, rfl, rfl, e1 l _ (e l _ hl), by rw [List.length_append]; simp, by
    rw [List.dropLast_concat]
    exact k _ (Ex.put (e.trans e1))⟩
end

/-! ### who sees what -/
theorem inV_ints (i : Int) (ns : List Int) : inV (.int i) (ns.map V.int) = decide (i ∈ ns) := by
  unfold inV
  induction ns with
  | nil => rfl
  | cons n r ih =>
    rw [List.map_cons, List.any_cons, ih]
    have e : eqV (V.int n) (V.int i) = decide (n = i) := rfl
    rw [e]
    by_cases h : n = i
    · subst h; simp
    · have h' : ¬ i = n := fun h2 => h h2.symm
      simp [h, h']
theorem flat_ints (ns : List Int) : (ns.map V.int).all flatV = true := by
  rw [List.all_eq_true]
  intro v hv
  obtain ⟨i, _, rfl⟩ := List.mem_map.mp hv
  rfl
/-- a gate that has the line as a source, or one of these, and so on -/
inductive Sees (p : Plan) (l : Int) : Int → Prop
  | src {i : Nat} {g : Gate} : p.gates[i]? = some g → l ∈ g.srcs → Sees p l (p.many + i)
  | step {i : Nat} {g : Gate} {y : Int} : Sees p l y → p.gates[i]? = some g → y ∈ g.srcs → Sees p l (p.many + i)
theorem Sees.gate {p : Plan} {l x : Int} (h : Sees p l x) : ∃ (i : Nat) (g : Gate), p.gates[i]? = some g ∧ x = p.many + i := by
  cases h with
  | src h1 _ => exact ⟨_, _, h1, rfl⟩
  | step _ h1 _ => exact ⟨_, _, h1, rfl⟩
theorem Sees.range {p : Plan} {l x : Int} (h : Sees p l x) : p.many ≤ x ∧ x < p.lines := by
  obtain ⟨i, g, hg, rfl⟩ := h.gate
  have := (List.getElem?_eq_some_iff.mp hg).1
  unfold Plan.lines
  omega
open Classical in
noncomputable def seersM (p : Plan) (l : Int) : List Int := ((List.range p.lines.toNat).filter fun i : Nat => decide (Sees p l (i : Int))).map fun i : Nat => (i : Int)
/-- all gates that have y as a source are seen -/
def ClosedAt (p : Plan) (s : List Bool) (y : Int) : Prop := ∀ (i : Nat) (g : Gate), p.gates[i]? = some g → y ∈ g.srcs → s.getD (p.many + i).toNat false = true
/-- what is seen so far -/
structure SeenInv (p : Plan) (l : Int) (s : List Bool) (w : List Int) : Prop where
  len : (s.length : Int) = p.lines
  snd : ∀ x : Int, 0 ≤ x → s.getD x.toNat false = true → Sees p l x
  wt : ∀ y ∈ w, y = l ∨ Sees p l y
  cl : ∀ y : Int, (y = l ∨ (0 ≤ y ∧ s.getD y.toNat false = true)) → y ∈ w ∨ ClosedAt p s y
theorem seen_end {p : Plan} {l : Int} {s : List Bool} (m0 : 0 ≤ p.many) (h : SeenInv p l s []) : ∀ x : Int, 0 ≤ x → (s.getD x.toNat false = true ↔ Sees p l x) := by
  intro x x0
  refine ⟨h.snd x x0, fun hs => ?_⟩
  clear x0
  induction hs with
  | src hg hl =>
    rcases h.cl l (.inl rfl) with q | q
    · cases q
    · exact q _ _ hg hl
  | step hy hg hm ih =>
    rcases h.cl _ (.inr ⟨by have := hy.range; omega, ih⟩) with q | q
    · cases q
    · exact q _ _ hg hm
open Classical in
theorem seen_list {p : Plan} {l : Int} {s : List Bool} (m0 : 0 ≤ p.many) (h : SeenInv p l s []) : (((List.range p.lines.toNat).filter fun i : Nat => s.getD i false).map fun i : Nat => (i : Int)) = seersM p l := by
  unfold seersM
  congr 1
  refine List.filter_congr fun i _ => ?_
  have := seen_end m0 h (i : Int) (Int.natCast_nonneg i)
  rw [Int.toNat_natCast] at this
  by_cases c : Sees p l (i : Int)
  · rw [this.mpr c]; exact (decide_eq_true c).symm
  · have : s.getD i false = false := by
      cases e : s.getD i false
      · rfl
      · exact absurd (this.mp e) c
    rw [this]; exact (decide_eq_false c).symm
theorem falses_get (n k : Nat) : (List.replicate n false).getD k false = false := by
  rw [List.getD_eq_getElem?_getD, List.getElem?_replicate]
  split <;> rfl
theorem seen_start {p : Plan} {l : Int} (h : 0 ≤ p.lines) : SeenInv p l (List.replicate p.lines.toNat false) [l] := by
  refine ⟨by rw [List.length_replicate]; omega, fun x _ h => ?_, fun y hy => .inl (List.mem_singleton.mp hy), fun y hy => ?_⟩
  · rw [falses_get] at h; cases h
  · rcases hy with rfl | ⟨_, h⟩
    · exact .inl List.mem_cons_self
    · rw [falses_get] at h; cases h
/-! seers: one after the other -/
def seeStep (many : Int) (one : Int) : List Gate → Nat → List Bool × List Int → List Bool × List Int
  | [], _, r => r
  | g :: gs, k, r => seeStep many one gs (k + 1) (if one ∈ g.srcs ∧ r.1.getD (many + k).toNat false = false then (r.1.set (many + k).toNat true, r.2 ++ [many + k]) else r)
structure SeeOut (many one : Int) (gs : List Gate) (k : Nat) (s : List Bool) (w : List Int) (s' : List Bool) (w' : List Int) : Prop where
  len : s'.length = s.length
  cnt : w'.length + cntF s' = w.length + cntF s
  seen : ∀ x : Nat, s'.getD x false = true ↔ s.getD x false = true ∨ ∃ (i : Nat) (g : Gate), gs[i]? = some g ∧ one ∈ g.srcs ∧ (x : Int) = many + (k + i : Nat)
  old : ∀ y ∈ w, y ∈ w'
  new : ∀ y ∈ w', y ∈ w ∨ (many ≤ y ∧ s'.getD y.toNat false = true)
  got : ∀ x : Nat, s.getD x false = false → s'.getD x false = true → (x : Int) ∈ w'
theorem seeStep_out {many one : Int} (m0 : 0 ≤ many) : ∀ (gs : List Gate) (k : Nat) (s : List Bool) (w : List Int), (many + (k + gs.length : Nat) ≤ s.length) → SeeOut many one gs k s w (seeStep many one gs k (s, w)).1 (seeStep many one gs k (s, w)).2
  | [], k, s, w, _ => ⟨rfl, rfl, fun x => ⟨.inl, fun h => h.elim id fun ⟨i, g, h, _⟩ => by simp at h⟩, fun _ h => h, fun _ h => .inl h, fun x h1 h2 => by
      have h2 : s.getD x false = true := h2
      rw [h1] at h2; cases h2⟩
  | g :: gs, k, s, w, hl => by
    rw [List.length_cons] at hl
    rw [seeStep]
    by_cases c : one ∈ g.srcs ∧ s.getD (many + k).toNat false = false
    · simp only [if_pos c]
      have hlt : (many + k).toNat < s.length := by omega
      obtain ⟨a1, a2, a3, a4, a5, a6⟩ := seeStep_out m0 gs (k + 1) (s.set (many + k).toNat true) (w ++ [many + k]) (by rw [List.length_set]; omega)
      have hc := cntF_set hlt c.2
      rw [List.length_set] at a1
      refine ⟨a1, ?_, fun x => ?_, fun y hy => a4 y (List.mem_append_left _ hy), fun y hy => ?_, fun x h1 h2 => ?_⟩
      · rw [List.length_append] at a2
        simp at a2; omega
      · rw [a3 x]
        constructor
        · rintro (h | ⟨i, g', h1, h2, h3⟩)
          · rw [getD_set hlt] at h
            by_cases e : (many + k).toNat = x
            · exact .inr ⟨0, g, rfl, c.1, by omega⟩
            · rw [if_neg e] at h; exact .inl h
          · exact .inr ⟨i + 1, g', by simpa using h1, h2, by omega⟩
        · rintro (h | ⟨i, g', h1, h2, h3⟩)
          · left
            rw [getD_set hlt]
            split
            · rfl
            · exact h
          · cases i with
            | zero => left; rw [getD_set hlt, if_pos (by omega)]
            | succ i => exact .inr ⟨i, g', by simpa using h1, h2, by omega⟩
      · rcases a5 y hy with h | h
        · rcases List.mem_append.mp h with h | h
          · exact .inl h
          · rcases List.mem_singleton.mp h with rfl
            exact .inr ⟨by omega, (a3 _).mpr (.inl (by rw [getD_set hlt, if_pos rfl]))⟩
        · exact .inr h
      · by_cases e : (many + k).toNat = x
        · have : (x : Int) = many + k := by omega
          rw [this]
          exact a4 _ (List.mem_append_right _ (List.mem_singleton.mpr rfl))
        · exact a6 x (by rw [getD_set hlt, if_neg e]; exact h1) h2
    · simp only [if_neg c]
      obtain ⟨a1, a2, a3, a4, a5, a6⟩ := seeStep_out m0 gs (k + 1) s w (by omega)
      refine ⟨a1, a2, fun x => ?_, a4, a5, a6⟩
      rw [a3 x]
      constructor
      · rintro (h | ⟨i, g', h1, h2, h3⟩)
        · exact .inl h
        · exact .inr ⟨i + 1, g', by simpa using h1, h2, by omega⟩
      · rintro (h | ⟨i, g', h1, h2, h3⟩)
        · exact .inl h
        · cases i with
          | zero =>
            have : g' = g := by simpa using h1.symm
            subst this
            left
            have hx : (many + k).toNat = x := by omega
            cases e : s.getD x false with
            | true => rfl
            | false => exact absurd ⟨h2, by rw [hx]; exact e⟩ c
          | succ i => exact .inr ⟨i, g', by simpa using h1, h2, by omega⟩
/-- one is taken off the end of the waiting, and its gates are looked at -/
theorem seen_turn {p : Plan} {l one : Int} {s : List Bool} {w : List Int} (m0 : 0 ≤ p.many) (h : SeenInv p l s (w ++ [one])) :
    SeenInv p l (seeStep p.many one p.gates 0 (s, w)).1 (seeStep p.many one p.gates 0 (s, w)).2 ∧ (seeStep p.many one p.gates 0 (s, w)).2.length + cntF (seeStep p.many one p.gates 0 (s, w)).1 + 1 = (w ++ [one]).length + cntF s := by
  have hl := h.len
  obtain ⟨a1, a2, a3, a4, a5, a6⟩ := seeStep_out (one := one) m0 p.gates 0 s w (by unfold Plan.lines at hl; omega)
  generalize (seeStep p.many one p.gates 0 (s, w)).1 = s' at *
  generalize (seeStep p.many one p.gates 0 (s, w)).2 = w' at *
  have h1 : one = l ∨ Sees p l one := h.wt one (List.mem_append_right _ (List.mem_singleton.mpr rfl))
  have snd : ∀ x : Int, 0 ≤ x → s'.getD x.toNat false = true → Sees p l x := fun x x0 hx => by
    rcases (a3 _).mp hx with q | ⟨i, g, hg, hm, he⟩
    · exact h.snd x x0 q
    · have e : x = p.many + (i : Int) := by omega
      rw [e]
      rcases h1 with rfl | h1
      · exact .src hg hm
      · exact .step h1 hg hm
  refine ⟨⟨by rw [a1]; exact hl, snd, fun y hy => ?_, fun y hy => ?_⟩, by rw [List.length_append]; simp; omega⟩
  · rcases a5 y hy with q | ⟨q1, q2⟩
    · exact h.wt y (List.mem_append_left _ q)
    · exact .inr (snd y (by omega) q2)
  · have keep : ClosedAt p s y → ClosedAt p s' y := fun q i g hg hm => (a3 _).mpr (.inl (q i g hg hm))
    have one_ok : ClosedAt p s' one := fun i g hg hm => (a3 _).mpr (.inr ⟨i, g, hg, hm, by omega⟩)
    have main : (y = l ∨ (0 ≤ y ∧ s.getD y.toNat false = true)) → y ∈ w' ∨ ClosedAt p s' y := fun hy => by
      rcases h.cl y hy with q | q
      · rcases List.mem_append.mp q with q | q
        · exact .inl (a4 y q)
        · rcases List.mem_singleton.mp q with rfl
          exact .inr one_ok
      · exact .inr (keep q)
    rcases hy with hy | ⟨y0, hy⟩
    · exact main (.inl hy)
    · cases e : s.getD y.toNat false with
      | true => exact main (.inr ⟨y0, e⟩)
      | false =>
        left
        have := a6 y.toNat e hy
        rw [Int.toNat_of_nonneg y0] at this
        exact this
/-! the law's way: round by round -/
theorem seen_round {p : Plan} {l : Int} {s : List Bool} {news fresh : List Int} (m0 : 0 ≤ p.many) (h : SeenInv p l s news)
    (hf : ∀ x : Int, x ∈ fresh ↔ ∃ (i : Nat) (g : Gate), p.gates[i]? = some g ∧ x = p.many + i ∧ s.getD x.toNat false = false ∧ ∃ y ∈ g.srcs, y ∈ news) : SeenInv p l (doneBy s fresh) fresh := by
  have hl := h.len
  have fpos : ∀ x ∈ fresh, 0 ≤ x := fun x hx => by
    obtain ⟨i, g, _, rfl, _⟩ := (hf x).mp hx
    omega
  have dget : ∀ (ls : List Int) (d : List Bool) (k : Nat), (d.getD k false = true → (doneBy d ls).getD k false = true) := fun ls => by
    induction ls with
    | nil => intro d k h; exact h
    | cons x r ih =>
      intro d k hk
      refine ih _ k ?_
      by_cases e : x.toNat = k
      · subst e
        rw [getD_set_eq]
        by_cases c : x.toNat < d.length
        · exact c
        · rw [List.getD_eq_getElem?_getD, List.getElem?_eq_none (by omega)] at hk; cases hk
      · rw [getD_set_ne e]; exact hk
  have dgot : ∀ (ls : List Int) (d : List Bool) (x : Int), x ∈ ls → x.toNat < d.length → (doneBy d ls).getD x.toNat false = true := fun ls => by
    induction ls with
    | nil => intro d x hx; cases hx
    | cons y r ih =>
      intro d x hx hlt
      rcases List.mem_cons.mp hx with rfl | hx
      · exact dget r _ _ (getD_set_eq hlt)
      · exact ih _ x hx (by rw [List.length_set]; exact hlt)
  have sees : ∀ x ∈ fresh, Sees p l x := fun x hx => by
    obtain ⟨i, g, hg, rfl, _, y, hy, hn⟩ := (hf x).mp hx
    rcases h.wt y hn with rfl | q
    · exact .src hg hy
    · exact .step q hg hy
  refine ⟨by rw [doneBy_len]; exact hl, fun x x0 hx => ?_, fun y hy => .inr (sees y hy), fun y hy => ?_⟩
  · rcases doneBy_get (p := p) x0 fresh s fpos hx with q | q
    · exact h.snd x x0 q
    · exact sees x q
  · have keep : ClosedAt p s y → ClosedAt p (doneBy s fresh) y := fun q i g hg hm => dget _ _ _ (q i g hg hm)
    have main : (y = l ∨ (0 ≤ y ∧ s.getD y.toNat false = true)) → y ∈ fresh ∨ ClosedAt p (doneBy s fresh) y := fun hy => by
      rcases h.cl y hy with q | q
      · refine .inr fun i g hg hm => ?_
        cases e : s.getD (p.many + (i : Int)).toNat false with
        | true => exact dget _ _ _ e
        | false =>
          refine dgot _ _ _ ((hf _).mpr ⟨i, g, hg, rfl, e, y, hm, q⟩) ?_
          have := (List.getElem?_eq_some_iff.mp hg).1
          unfold Plan.lines at hl
          omega
      · exact .inr (keep q)
    rcases hy with hy | ⟨y0, hy⟩
    · exact main (.inl hy)
    · rcases doneBy_get (p := p) y0 fresh s fpos hy with q | q
      · exact main (.inr ⟨y0, q⟩)
      · exact .inl q
theorem cntF_doneBy : ∀ (ls : List Int) (d : List Bool), (∀ x ∈ ls, 0 ≤ x ∧ x.toNat < d.length ∧ d.getD x.toNat false = false) → ls.Nodup → cntF (doneBy d ls) + ls.length = cntF d
  | [], d, _, _ => rfl
  | x :: r, d, h, nd => by
    obtain ⟨h0, h1, h2⟩ := h x List.mem_cons_self
    obtain ⟨n1, n2⟩ := List.nodup_cons.mp nd
    have ih := cntF_doneBy r (d.set x.toNat true) (fun y hy => by
      obtain ⟨k0, k1, k2⟩ := h y (List.mem_cons_of_mem _ hy)
      refine ⟨k0, by rw [List.length_set]; exact k1, ?_⟩
      rw [getD_set_ne]
      · exact k2
      · intro e
        exact n1 (by rw [show x = y by omega]; exact hy)) n2
    have := cntF_set h1 h2
    show cntF (doneBy (d.set x.toNat true) r) + (r.length + 1) = _
    omega
def freshC (p : Plan) (s : List Bool) (news : List Int) (i : Nat) : Bool := !(s.getD (p.many + (i : Int)).toNat false) && (((p.gates.getD i ⟨"", [], 0⟩).srcs).map fun y => decide (y ∈ news)).any id
def freshN (p : Plan) (s : List Bool) (news : List Int) (n : Nat) : List Int := ((List.range n).filter (freshC p s news)).map fun i : Nat => p.many + (i : Int)
theorem freshN_succ (p : Plan) (s : List Bool) (news : List Int) (n : Nat) : freshN p s news (n + 1) = if freshC p s news n = true then freshN p s news n ++ [p.many + (n : Int)] else freshN p s news n := by
  unfold freshN
  rw [List.range_succ, List.filter_append, List.map_append]
  by_cases c : freshC p s news n = true
  · rw [if_pos c]; simp [c]
  · rw [if_neg c]; simp [c]
theorem freshN_len (p : Plan) (s : List Bool) (news : List Int) (n : Nat) : (freshN p s news n).length ≤ n := by
  unfold freshN
  rw [List.length_map]
  have := List.length_filter_le (freshC p s news) (List.range n)
  rw [List.length_range] at this
  exact this
theorem mem_freshN {p : Plan} {s : List Bool} {news : List Int} {x : Int} : x ∈ freshN p s news p.gates.length ↔ ∃ (i : Nat) (g : Gate), p.gates[i]? = some g ∧ x = p.many + i ∧ s.getD x.toNat false = false ∧ ∃ y ∈ g.srcs, y ∈ news := by
  unfold freshN
  rw [List.mem_map]
  constructor
  · rintro ⟨i, hi, rfl⟩
    obtain ⟨h1, h2⟩ := List.mem_filter.mp hi
    have hl := List.mem_range.mp h1
    unfold freshC at h2
    rw [List.getD_eq_getElem?_getD (l := p.gates), List.getElem?_eq_getElem hl] at h2
    simp only [Option.getD_some, Bool.and_eq_true, Bool.not_eq_true', List.any_map, List.any_eq_true] at h2
    obtain ⟨h3, y, h4, h5⟩ := h2
    exact ⟨i, _, List.getElem?_eq_getElem hl, rfl, h3, y, h4, by simpa using h5⟩
  · rintro ⟨i, g, hg, rfl, hs, y, hy, hn⟩
    have hl := (List.getElem?_eq_some_iff.mp hg).1
    refine ⟨i, List.mem_filter.mpr ⟨List.mem_range.mpr hl, ?_⟩, rfl⟩
    unfold freshC
    rw [List.getD_eq_getElem?_getD (l := p.gates), hg, hs]
    simp only [Option.getD_some, Bool.not_false, Bool.true_and, List.any_map, List.any_eq_true]
    exact ⟨y, hy, by simpa using hn⟩
theorem freshN_nodup (p : Plan) (s : List Bool) (news : List Int) (n : Nat) : (freshN p s news n).Nodup := by
  unfold freshN
  have h : ((List.range n).filter (freshC p s news)).Nodup := List.Nodup.sublist List.filter_sublist List.nodup_range
  exact h.map (fun i : Nat => p.many + (i : Int)) fun a b hne he => hne (by omega)
/-- a round: what is seen then, and that it comes to an end -/
theorem fresh_turn {p : Plan} {l : Int} {s : List Bool} {news : List Int} (m0 : 0 ≤ p.many) (h : SeenInv p l s news) :
    SeenInv p l (doneBy s (freshN p s news p.gates.length)) (freshN p s news p.gates.length) ∧ cntF (doneBy s (freshN p s news p.gates.length)) + (freshN p s news p.gates.length).length = cntF s := by
  refine ⟨seen_round m0 h fun x => mem_freshN, cntF_doneBy _ _ (fun x hx => ?_) (freshN_nodup _ _ _ _)⟩
  obtain ⟨i, g, hg, rfl, hs, _⟩ := mem_freshN.mp hx
  have := (List.getElem?_eq_some_iff.mp hg).1
  have hl := h.len
  unfold Plan.lines at hl
  exact ⟨by omega, by omega, hs⟩

/-! ### words, several clauses -/
section
variable {K : PySem.W.Frag} {σ : L2.St} {G H : Hp} {ta tb te : TE} {tl th : TO} {tA : TA} {D : Ends} {W : WX} {ts : Addr → Value → Option Addr → TS} {r : List (Value × (Addr → Value → Option Addr → TS))} {c cls : Value} {d : Option Addr} {z y : Str} {lo hi : Option Int} {xs ys : List V} {l : Addr} {β : Type} {R : Hp → V → β → Prop} {bs : List β}
theorem wm_hit (h : PySem.W.exmOne K cls c = some true) (e : Ex G H) (k : ∀ a, G a = none → Go (ts a cls d) D σ G) : wMany K W D ((c, ts) :: r) cls d σ H :=
  ⟨true, h, fun _ a ha => k a (e.none ha) H e, fun z => (by cases z)⟩
theorem wm_miss (h : PySem.W.exmOne K cls c = some false) (k : wMany K W D r cls d σ H) : wMany K W D ((c, ts) :: r) cls d σ H := ⟨false, h, fun z => (by cases z), fun _ => k⟩
theorem ev_slX (h : Ev te σ G (.str z)) (h1 : EvO tl σ G lo) (h2 : EvO th σ G hi) (hz : z.length ≤ 100000) : Ev (tSl C8.rSlX te tl th) σ G (.str (Txt.slice z lo hi)) := fun H1 e Q q =>
  h H1 e _ fun H2 e2 => h1 H2 (e.trans e2) _ fun H3 e3 => h2 H3 ((e.trans e2).trans e3) _ fun H4 e4 => ⟨z, rfl, sz_of hz, q H4 ((e2.trans e3).trans e4)⟩
theorem slice_len (z : Str) (lo hi : Option Int) : (Txt.slice z lo hi).length ≤ z.length := by rw [← C8.cutS_slice]; exact cutS_length z lo hi
theorem ev_addZ (h : Ev ta σ G (.str z)) (h2 : Ev tb σ G (.str y)) (hz : z.length + y.length ≤ 100000) : Ev (tOp rAddZ ta tb) σ G (.str (z ++ y)) := fun H1 e Q q =>
  h H1 e _ fun H2 e2 => h2 H2 (e.trans e2) _ fun H3 e3 => ⟨z, y, rfl, rfl, sz_of hz, q H3 (e2.trans e3)⟩
theorem ev_lenZ (h : Ev ta σ G (.str z)) (hz : z.length ≤ 100000) : Ev (tCB rLenZ (tCons ta tNil)) σ G (.int z.length) := fun H1 e Q q => h H1 e _ fun H2 e2 => ⟨z, rfl, sz_of hz, q H2 e2⟩
theorem el_catV (ha : Ev ta σ G (.ref l)) (hl : G l = some (.lst xs)) (hb : EvL tb σ G ys) (hz : xs.length + ys.length ≤ 100000) : EvL (tOp rCat ta tb) σ G (xs ++ ys) := fun H e Q q =>
  ha H e _ fun H1 e1 => hb H1 (e.trans e1) _ fun p2 H2 hp2 e2 h2 => ⟨l, p2, xs, ys, rfl, rfl, e2 _ _ (e1 _ _ (e _ _ hl)), h2, sz_of hz, fun pn hpn => q pn _ (e1.none (e2.none hpn)) ((e1.trans e2).trans (Ex.new hpn)) upd_same⟩
/-- an item of a list that is made on the way -/
theorem ep_ixL {b : β} {k : Nat} (h : EvP ta σ G (LstOf R G bs)) (h2 : Ev tb σ G (.int (k : Int))) (hb : bs[k]? = some b) : EvP (tOp (rIxL K) ta tb) σ G fun v G' => R G' v b := fun H e Q q =>
  h H e _ fun v G' H1 g1 g2 e1 ⟨p, ws, hv, _, hl, hR⟩ => (h2.mono g1) H1 g2 _ fun H2 e2 => by
    have hk : k < ws.length := by rw [hR.1]; exact (List.getElem?_eq_some_iff.mp hb).1
    exact ⟨p, ws, k, ws[k], hv, rfl, sq_of (e2 _ _ (g2 _ _ hl)), atI_nat (List.getElem?_eq_getElem hk), q _ G' H2 g1 (g2.trans e2) (e1.trans e2) (hR.2 k _ _ (List.getElem?_eq_getElem hk) hb)⟩
end
/-! pairs written out -/
def tPairs : List (Int × Int) → TA
  | [] => tNil
  | p :: r => tCons (tTup (tCons (tC (.int p.1)) (tCons (tC (.int p.2)) tNil))) (tPairs r)
def PairAt (K : PySem.W.Frag) (G : Hp) (v : V) (p : Int × Int) : Prop := ∃ a, v = .ref a ∧ SqT K G a [.int p.1, .int p.2]
theorem PairAt.mono {K : PySem.W.Frag} {G G' : Hp} {v : V} {p : Int × Int} (e : Ex G G') (h : PairAt K G v p) : PairAt K G' v p := by
  obtain ⟨a, rfl, h⟩ := h
  exact ⟨a, rfl, ex_t e h⟩
theorem eap_pairs {K : PySem.W.Frag} {σ : L2.St} : ∀ (ps : List (Int × Int)) {G : Hp}, EvAP (tPairs ps) σ G fun vs G' => Rows (PairAt K G') vs ps
  | [], G => fun H e Q q => q [] G H (Ex.refl _) e (Ex.refl _) rows_nil
  | p :: r, G => by
    intro H e Q q
    show tTup (tCons (tC (.int p.1)) (tCons (tC (.int p.2)) tNil)) σ H fun v H1 => tPairs r σ H1 fun vs H2 => Q (v :: vs) H2
    refine ep_U (eu_tup (ta := tCons (tC (.int p.1)) (tCons (tC (.int p.2)) tNil)) (ea_cons ev_c (ea_cons ev_c ea_nil)) (by show 2 ≤ 100000; decide)) H e _ fun v G1 H1 g1 g2 e1 hv => ?_
    obtain ⟨a, hv, ha, hG⟩ := hv
    refine eap_pairs (K := K) r H1 g2 _ fun vs G2 H2 k1 k2 e2 hR => ?_
    refine q (v :: vs) G2 H2 (g1.trans k1) k2 (e1.trans e2) ⟨by simp [hR.1], fun i x y hx hy => ?_⟩
    cases i with
    | zero =>
      simp at hx hy
      subst hx hy
      exact ⟨a, hv, ex_t k1 (st_of (by rw [hG]; exact upd_same))⟩
    | succ i => exact hR.2 i x y (by simpa using hx) (by simpa using hy)
theorem ep_pairs {K : PySem.W.Frag} {σ : L2.St} {G : Hp} (ps : List (Int × Int)) (hz : ps.length ≤ 100000) : EvP (tLst (tPairs ps)) σ G (LstOf (PairAt K) G ps) :=
  ep_lst (eap_pairs ps) (fun vs G' h => by rw [h.1]; exact hz) fun vs G' p e h hp => ⟨p, vs, rfl, e.none hp, upd_same, rows_imp h fun _ _ r => r.mono (Ex.new hp)⟩
/-! the values drawn -/
def truthsM (c n : Int) : List Bool := (List.range n.toNat).map fun k : Nat => decide (mixed c k 2 = 1)
theorem truthsM_len {c n : Int} (h : 0 ≤ n) : ((truthsM c n).length : Int) = n := by unfold truthsM; simp; omega
/-! k02's words -/
def some21 : List Str := kinds9 ++ (["", "Yes", "and", "or", "keeps", " not", "both ", "NO", "mos", "kind", "in", "by"] : List Str)
theorem some21_len {k : Nat} (h : k < 21) : (some21.getD k "").length ≤ 10 := by
  have h2 : ∀ j : Fin 21, (some21.getD j.1 "").length ≤ 10 := by decide +kernel
  exact h2 ⟨k, h⟩
theorem some9_pos {k : Nat} (h : k < 9) : 0 < (some21.getD k "").length := by
  have h2 : ∀ j : Fin 9, 0 < (some21.getD j.1 "").length := by decide +kernel
  exact h2 ⟨k, h⟩
def pairs9 : List (Int × Int) := [(0, 0), (0, 0), (1, 1), (1, 1), (2, 9), (2, 9), (2, 9), (3, 3), (3, 3)]
theorem pairs9_ok {k : Nat} (h : k < 9) : ∃ b, pairs9[k]? = some b ∧ wantsM (kinds9.getD k "") = .ok b := by
  have hk : k = 0 ∨ k = 1 ∨ k = 2 ∨ k = 3 ∨ k = 4 ∨ k = 5 ∨ k = 6 ∨ k = 7 ∨ k = 8 := by omega
  rcases hk with rfl | rfl | rfl | rfl | rfl | rfl | rfl | rfl | rfl <;> exact ⟨_, rfl, rfl⟩
theorem wants_none {z : Str} (h : ∀ k, k < 9 → z ≠ kinds9.getD k "") : wantsM z = .error .kind := by
  have hn : least z = none := by
    have h0 : z ≠ "yes" := h 0 (by decide)
    have h1 : z ≠ "no" := h 1 (by decide)
    have h2 : z ≠ "keep" := h 2 (by decide)
    have h3 : z ≠ "not" := h 3 (by decide)
    have h4 : z ≠ "both" := h 4 (by decide)
    have h5 : z ≠ "either" := h 5 (by decide)
    have h6 : z ≠ "unlike" := h 6 (by decide)
    have h7 : z ≠ "pick" := h 7 (by decide)
    have h8 : z ≠ "most" := h 8 (by decide)
    unfold least
    rw [if_neg h0, if_neg h1, if_neg h2, if_neg h3, if_neg h4, if_neg h5, if_neg h6, if_neg h7, if_neg h8]
  unfold wantsM
  rw [hn]
theorem answer_errs {z : Str} {bs : List Bool} {e : Err} (h : answerM z bs = .error e) : e = .kind ∨ e = .sources := by
  unfold answerM wantsM at h
  cases c : least z with
  | none => rw [c] at h; cases h; exact .inl rfl
  | some i =>
    rw [c] at h
    by_cases d : i ≤ bs.length ∧ (bs.length : Int) ≤ (if i = 2 then 9 else i)
    · simp only [if_pos d] at h; cases h
    · simp only [if_neg d] at h; cases h; exact .inr rfl

def topS (i : Nat) : Stmt := PySem.Challenge.pw_signalgraph_k02_kinds_and_sources.main.body.getD i (.Pass ⟨0, 0, 0, 0⟩)
abbrev s_wants : Stmt := topS 7
abbrev s_answer : Stmt := topS 8
abbrev s_l_cell_at : Stmt := topS 10
abbrev s_l_whole : Stmt := topS 11
abbrev s_l_mixed : Stmt := topS 12
abbrev s_l_truths : Stmt := topS 13
abbrev s_l_kind_by : Stmt := topS 14
abbrev s_l_bounds : Stmt := topS 15
abbrev s_l_word : Stmt := topS 16
abbrev s_l_refused_by_any : Stmt := topS 17
abbrev s_law : Stmt := topS 18
theorem sc_wants : FnScope ["kind", "least"] ["kind"] (defScope s_wants) := ⟨rfl, rfl, rfl, by decide +kernel, rfl, by decide +kernel, by decide +kernel⟩
theorem sc_answer : FnScope ["kind", "given", "bounds", "many", "one"] ["kind", "given"] (defScope s_answer) := ⟨rfl, rfl, rfl, by decide +kernel, rfl, by decide +kernel, by decide +kernel⟩
theorem sc_l_cell_at : FnScope ["_law_script", "_law_k"] ["_law_script", "_law_k"] (defScope s_l_cell_at) := ⟨rfl, rfl, rfl, by decide +kernel, rfl, by decide +kernel, by decide +kernel⟩
theorem sc_l_whole : FnScope ["_law_found"] ["_law_found"] (defScope s_l_whole) := ⟨rfl, rfl, rfl, by decide +kernel, rfl, by decide +kernel, by decide +kernel⟩
theorem sc_l_mixed : FnScope ["_law_cell", "_law_k", "_law_many", "_law_some"] ["_law_cell", "_law_k", "_law_many"] (defScope s_l_mixed) := ⟨rfl, rfl, rfl, by decide +kernel, rfl, by decide +kernel, by decide +kernel⟩
theorem sc_l_truths : FnScope ["_law_cell", "_law_many", "_law_k"] ["_law_cell", "_law_many"] (defScope s_l_truths) := ⟨rfl, rfl, rfl, by decide +kernel, rfl, by decide +kernel, by decide +kernel⟩
theorem sc_l_kind_by : FnScope ["_law_cell", "_law_some", "_law_word_here", "_law_spot", "_law_sign"] ["_law_cell"] (defScope s_l_kind_by) := ⟨rfl, rfl, rfl, by decide +kernel, rfl, by decide +kernel, by decide +kernel⟩
theorem sc_l_bounds : FnScope ["_law_kind", "_law_k"] ["_law_kind"] (defScope s_l_bounds) := ⟨rfl, rfl, rfl, by decide +kernel, rfl, by decide +kernel, by decide +kernel⟩
theorem sc_l_word : FnScope ["_law_kind", "_law_given", "_law_word_here", "_law_found"] ["_law_kind", "_law_given"] (defScope s_l_word) := ⟨rfl, rfl, rfl, by decide +kernel, rfl, by decide +kernel, by decide +kernel⟩
theorem sc_l_refused_by_any : FnScope ["_law_kind", "_law_given", "e"] ["_law_kind", "_law_given"] (defScope s_l_refused_by_any) := ⟨rfl, rfl, rfl, by decide +kernel, rfl, by decide +kernel, by decide +kernel⟩
theorem sc_law : FnScope ["_law_script", "_law_kind", "_law_bounds_here", "_law_given", "_law_told", "_law_found"] ["_law_script"] (defScope s_law) := ⟨rfl, rfl, rfl, by decide +kernel, rfl, by decide +kernel, by decide +kernel⟩
/-- what the top has left -/
structure Txt (K : PySem.W.Frag) (w : World) (mg : Str → Option Value) (A : Ads) : Prop where
  n_range : mg "range" = none
  n_len : mg "len" = none
  n_all : mg "all" = none
  n_any : mg "any" = none
  n_tuple : mg "tuple" = none
  n_int : mg "int" = none
  n_bool : mg "bool" = none
  n_isinstance : mg "isinstance" = none
  n_ValueError : mg "ValueError" = none
  c_MANY_SOURCES : ∃ u, mg "MANY_SOURCES" = some u ∧ RelV (.int 9) u
  c_LEAST : mg "LEAST" = some (.ref A.LEAST)
  d_LEAST : LeastAt K w A.LEAST
  g_SignalError : mg "SignalError" = some (.ref A.SignalError)
  x_SignalError : PySem.W.excIn K A.SignalError [.type "ValueError", .type "Exception", .type "BaseException", .type "object"] "ValueError.__new__" = true
  k_SignalError : PySem.W.keepIn K (.ref A.SignalError) = true
  b_SignalError : PySem.W.subIn K (.ref A.SignalError) (.type "BaseException") = some true
  t_SignalError : PySem.W.typeIn K (.ref A.SignalError) = some (.type "type")
  g_NoKind : mg "NoKind" = some (.ref A.NoKind)
  x_NoKind : PySem.W.excIn K A.NoKind [.type "ValueError", .type "Exception", .type "BaseException", .type "object"] "ValueError.__new__" = true
  k_NoKind : PySem.W.keepIn K (.ref A.NoKind) = true
  b_NoKind : PySem.W.subIn K (.ref A.NoKind) (.type "BaseException") = some true
  t_NoKind : PySem.W.typeIn K (.ref A.NoKind) = some (.type "type")
  g_NoSources : mg "NoSources" = some (.ref A.NoSources)
  x_NoSources : PySem.W.excIn K A.NoSources [.type "ValueError", .type "Exception", .type "BaseException", .type "object"] "ValueError.__new__" = true
  k_NoSources : PySem.W.keepIn K (.ref A.NoSources) = true
  b_NoSources : PySem.W.subIn K (.ref A.NoSources) (.type "BaseException") = some true
  t_NoSources : PySem.W.typeIn K (.ref A.NoSources) = some (.type "type")
  m_NoKind_NoKind : PySem.W.exmOne K (.ref A.NoKind) (.ref A.NoKind) = some true
  m_NoKind_NoSources : PySem.W.exmOne K (.ref A.NoKind) (.ref A.NoSources) = some false
  m_NoKind_SignalError : PySem.W.exmOne K (.ref A.NoKind) (.ref A.SignalError) = some true
  e_NoKind : ExcC K A.NoKind
  v_NoKind : PySem.W.kitOne K (.ref A.NoKind) (.type "ValueError") = some true
  m_NoSources_NoKind : PySem.W.exmOne K (.ref A.NoSources) (.ref A.NoKind) = some false
  m_NoSources_NoSources : PySem.W.exmOne K (.ref A.NoSources) (.ref A.NoSources) = some true
  m_NoSources_SignalError : PySem.W.exmOne K (.ref A.NoSources) (.ref A.SignalError) = some true
  e_NoSources : ExcC K A.NoSources
  v_NoSources : PySem.W.kitOne K (.ref A.NoSources) (.type "ValueError") = some true

local macro_rules | `(tactic| walk_at "cl") => `(tactic| first | exact ClsV.ty _ | exact ClsV.own _)
local macro_rules | `(tactic| walk_at "ty") => `(tactic| first | exact .base (.int _) | exact .base (.bl _) | exact .base (.str _) | exact .base .non | exact ty_list (by with_reducible assumption) | exact ty_tuple (by with_reducible assumption))
local macro_rules | `(tactic| walk_at "sd") => `(tactic| first | with_reducible assumption | rfl | omega | decide)
local macro_rules | `(tactic| walk_at "rv") => `(tactic| first
  | with_reducible exact rv_I0
  | ((with_reducible refine' rv_I ?c); (case c => first | omega | exact ⟨by omega, by omega⟩ | exact Or.inr ⟨by omega, by omega⟩ | exact Or.inl ⟨by omega, by omega⟩ | walk_at "sd"))
  | with_reducible exact rv_eqI
  | with_reducible exact rv_eqS
  | with_reducible exact rv_eqB
  | with_reducible exact rv_neI
  | with_reducible exact rv_neS
  | with_reducible exact rv_neB
  | with_reducible exact rv_notN
  | with_reducible exact rv_isN
  | ((with_reducible refine' rv_ixL ?a ?b); (case a => walk_at "sd"); (case b => walk_at "sd"))
  | ((with_reducible refine' rv_ixT ?a ?b); (case a => walk_at "sd"); (case b => walk_at "sd")))
local macro_rules | `(tactic| walk_at "ev") => `(tactic| first
  | with_reducible exact ev_c
  | ((with_reducible refine' ev_var ?a); (case a => rfl))
  | with_reducible assumption
  | ((with_reducible refine' ev_op ?a ?b ?c); (case a => walk_at "ev"); (case b => walk_at "ev"); (case c => walk_at "rv"))
  | ((with_reducible refine' ev_un ?a ru_neg); (case a => walk_at "ev"))
  | ((with_reducible refine' ev_callS ?a ?b); (case a => walk_at "ea"); (case b => walk_at "sv"))
  | ((with_reducible refine' ev_chI ?a ?b ?c); (case a => walk_at "ev"); (case b => walk_at "ev"); (case c => walk_at "ev"))
  | ((with_reducible refine' ev_len ?a ?b); (case a => walk_at "ev"); (case b => walk_at "sd"))
  | ((with_reducible refine' ev_lenT ?a ?b); (case a => walk_at "ev"); (case b => walk_at "sd"))
  | ((with_reducible refine' ev_isi ?a ?b ?c ?d ?e); (case a => walk_at "ev"); (case b => walk_at "ev"); (case c => walk_at "cl"); (case d => walk_at "ty"); (case e => exact kit_ty (by decide +kernel)))
  | ((with_reducible refine' ev_andV ?a (fun _ => ?b)); (case a => walk_at "ev"); (case b => walk_at "ev"))
  | ((with_reducible refine' ev_orV ?a (fun _ => ?b)); (case a => walk_at "ev"); (case b => walk_at "ev"))
  | ((with_reducible refine' ev_notV ?a); (case a => walk_at "ev"))
  | ((with_reducible refine' ev_all ?a ?b); (case a => walk_at "ev"); (case b => walk_at "sd"))
  | ((with_reducible refine' ev_any ?a ?b); (case a => walk_at "ev"); (case b => walk_at "sd")))
local macro_rules | `(tactic| walk_at "et") => `(tactic| first
  | ((with_reducible refine' et_test ?a); (case a => walk_at "ev"))
  | ((with_reducible refine' et_B ?a); (case a => walk_at "ev"))
  | ((with_reducible refine' et_not ?a); (case a => walk_at "et"))
  | ((with_reducible refine' et_and ?a (fun _ => ?b)); (case a => walk_at "et"); (case b => walk_at "et"))
  | ((with_reducible refine' et_or ?a (fun _ => ?b)); (case a => walk_at "et"); (case b => walk_at "et"))
  | with_reducible assumption)
local macro_rules | `(tactic| walk_at "ea") => `(tactic| first
  | with_reducible exact ea_nil
  | ((with_reducible refine' ea_cons ?a ?b); (case a => walk_at "ev"); (case b => walk_at "ea")))
local macro_rules | `(tactic| walk_at "try") => `(tactic| (refine go_raw fun _ e_ => ?_; dsimp only; refine Go.app ?_ e_; clear e_))

section
variable {P : Program} {w : World} {K : PySem.W.Frag} {mg : Str → Option Value} {base : Heap} {A : Ads}
def sp_l_cell_at (K : PySem.W.Frag) (A : Ads) : Sp := fun vs H Q E => ∃ a ns k, vs = [.ref a, .int k] ∧ SqL K H a (ns.map V.int) ∧ 0 ≤ k ∧ RetV (.int (cell ns k)) H Q
theorem sv_cell_at {K : PySem.W.Frag} {A : Ads} {G : Hp} {a : Addr} {ns : List Int} {k : Int} (h : SqL K G a (ns.map V.int)) (h0 : 0 ≤ k) : SpV (sp_l_cell_at K A) [.ref a, .int k] G (.int (cell ns k)) := fun _ e _ q _ =>
  ⟨a, ns, k, rfl, ex_l e h, h0, q⟩
theorem ok_l_cell_at {f : Addr} {fd : FuncData} (F : Fun K "_law_cell_at" "_law_cell_at" s_l_cell_at f fd) (T : Txt K w mg A)  : FnOk P w K mg base (L2.CX P w) 1 f fd ["_law_script", "_law_k"] (sp_l_cell_at K A) := by
  refine F.okX sc_l_cell_at (fun vs H Q E h => ?_) (fun cdv A_ outer s H vs Q E hr h => ?_)
  · obtain ⟨a, ns, k, rfl, _⟩ := h; rfl
  · obtain ⟨a, ns, k, rfl, hS, h0, q⟩ := h
    refine ⟨_, (pss_cons (ps_if (pt_cmpR op_lt (pv 1) (pe_callB (c_len K) (by rfl) T.n_len PySem.boot_len (pa_cons (pv 0) pa_nil)) (nomark _)) (pss_cons (ps_ret (pe_ix (ixL K) (pv 0) (pv 1) (fun _ _ => rfl))) pss_nil) pss_nil) (pss_cons (ps_ret pe_int) pss_nil)), ?_⟩
    try dsimp only [cxOf, Cx.blk]
    refine Go.start (σ := [some (.ref a), some (.int k)]) ?_
    have hl : (ns.map V.int).length = ns.length := List.length_map _
    refine go_when (b := decide (k < (ns.length : Int))) (et_test (ev_is (ev_op (by walk_at "ev") (ev_len (ev_var rfl) hS) rv_I0) (by rw [hl]))) (fun h => ?_) (fun h => ?_)
    · have h1 : k < ns.length := of_decide_eq_true h
      exact go_ret (ev_op (ev_var rfl) (ev_var rfl) (rv_ixL hS (at_map V.int ns 0 h0 h1))) fun H1 e1 => q H1 e1
    · have h1 : ¬ k < ns.length := of_decide_eq_false h
      refine go_ret ev_c fun H1 e1 => ?_
      have e2 : cell ns k = 0 := by
        unfold cell
        rw [List.getD_eq_getElem?_getD, List.getElem?_eq_none (by omega)]; rfl
      have q2 := q H1 e1
      rw [e2] at q2
      exact q2

end
local macro_rules | `(tactic| walk_at "sv") => `(tactic| exact sv_cell_at (by walk_at "sd") (by walk_at "sd"))

section
variable {P : Program} {w : World} {K : PySem.W.Frag} {mg : Str → Option Value} {base : Heap} {A : Ads}
def sp_l_mixed (K : PySem.W.Frag) (A : Ads) : Sp := fun vs H Q E => ∃ c k m : Int, vs = [.int c, .int k, .int m] ∧ 0 < m ∧ RetV (.int (mixed c k m)) H Q
theorem sv_mixed {K : PySem.W.Frag} {A : Ads} {G : Hp} {c k m : Int} (h : 0 < m) : SpV (sp_l_mixed K A) [.int c, .int k, .int m] G (.int (mixed c k m)) := fun _ e _ q _ => ⟨c, k, m, rfl, h, q⟩
theorem ok_l_mixed {f : Addr} {fd : FuncData} (F : Fun K "_law_mixed" "_law_mixed" s_l_mixed f fd) (T : Txt K w mg A)  : FnOk P w K mg base (L2.CX P w) 1 f fd ["_law_cell", "_law_k", "_law_many"] (sp_l_mixed K A) := by
  refine F.okX sc_l_mixed (fun vs H Q E h => ?_) (fun cdv A_ outer s H vs Q E hr h => ?_)
  · obtain ⟨c, k, m, rfl, _⟩ := h; rfl
  · obtain ⟨c, k, m, rfl, hm, q⟩ := h
    refine ⟨_, (pss_cons (ps_set (i := 3) sc_l_mixed.nd rfl (.inl rfl) (pe_lst (pa_cons pe_int (pa_cons pe_int (pa_cons pe_int (pa_cons pe_int (pa_cons pe_int (pa_cons pe_int (pa_cons pe_int (pa_cons pe_int (pa_cons pe_int (pa_cons pe_int (pa_cons pe_int pa_nil))))))))))))) (pss_cons (ps_ret (pe_op op_mod (pe_op op_mod (pe_op op_mul (pe_op op_add (pv 0) (pe_op op_mul pe_int (pv 1))) pe_int) (pe_ix (ixL K) (pv 3) (pe_op op_mod (pv 1) pe_int) (fun _ _ => rfl))) (pv 2))) pss_nil)), ?_⟩
    try dsimp only [cxOf, Cx.blk]
    refine Go.start (σ := [some (.int c), some (.int k), some (.int m), none]) ?_
    refine go_asgL (el_lst (by walk_at "ea") (by show 11 ≤ 100000; decide)) fun p hp => ?_
    have k0 : 0 ≤ k % 11 := by omega
    have k1 : k % 11 < 11 := by omega
    have hL : SqL K (upd H p (.lst (some11.map V.int))) p (some11.map V.int) := sq_of upd_same
    have ha : atI (some11.map V.int) (k % 11) = some (.int (some11.getD (k % 11).toNat 0)) := at_map V.int some11 0 k0 k1
    have hp11 := some11_pos k0 k1
    refine Go.weak (ex_of_eq (show upd H p (.lst (some11.map V.int)) = _ from rfl)) ?_
    refine go_ret (by walk_at "ev") fun H1 e1 => ?_
    exact q H1 ((Ex.new hp).trans e1)

end
local macro_rules | `(tactic| walk_at "sv") => `(tactic| exact sv_mixed (by walk_at "sd"))

section
variable {P : Program} {w : World} {K : PySem.W.Frag} {mg : Str → Option Value} {base : Heap} {A : Ads}
def sp_l_kind_by (K : PySem.W.Frag) (A : Ads) : Sp := fun vs H Q E => ∃ c : Int, vs = [.int c] ∧ ∀ z H', Ex H H' → Q (.str z) H'
theorem sg_kind_by {K : PySem.W.Frag} {A : Ads} {G : Hp} {c : Int} : SpG (sp_l_kind_by K A) [.int c] G fun v G' => ∃ z, v = .str z ∧ G' = G := fun H e Q _ q =>
  ⟨c, rfl, fun z H' e' => q _ G H' (Ex.refl _) (e.trans e') e' ⟨z, rfl, rfl⟩⟩
theorem ok_l_kind_by {f : Addr} {fd : FuncData} (F : Fun K "_law_kind_by" "_law_kind_by" s_l_kind_by f fd) (T : Txt K w mg A) (c_l_mixed : CalX P w K mg base 1 "_law_mixed" (sp_l_mixed K A)) : FnOk P w K mg base (L2.CX P w) 2 f fd ["_law_cell"] (sp_l_kind_by K A) := by
  refine F.okX sc_l_kind_by (fun vs H Q E h => ?_) (fun cdv A_ outer s H vs Q E hr h => ?_)
  · obtain ⟨c, rfl, _⟩ := h; rfl
  · obtain ⟨c, rfl, q⟩ := h
    refine ⟨_, (pss_cons (ps_set (i := 1) sc_l_kind_by.nd rfl (.inl rfl) (pe_lst (pa_cons pe_str (pa_cons pe_str (pa_cons pe_str (pa_cons pe_str (pa_cons pe_str (pa_cons pe_str (pa_cons pe_str (pa_cons pe_str (pa_cons pe_str pa_nil))))))))))) (pss_cons (ps_set (i := 1) sc_l_kind_by.nd rfl (.inl rfl) (pe_op op_cat (pv 1) (pe_lst (pa_cons pe_str (pa_cons pe_str (pa_cons pe_str (pa_cons pe_str (pa_cons pe_str (pa_cons pe_str (pa_cons pe_str (pa_cons pe_str (pa_cons pe_str (pa_cons pe_str (pa_cons pe_str (pa_cons pe_str pa_nil))))))))))))))) (pss_cons (ps_if (pt_cmpR op_lt (pe_op op_mod (pv 0) pe_int) pe_int (nomark _)) (pss_cons (ps_ret (pe_ix (ixL K) (pv 1) (pe_op op_mod (pv 0) pe_int) (fun _ _ => rfl))) pss_nil) pss_nil) (pss_cons (ps_set (i := 2) sc_l_kind_by.nd rfl (.inl rfl) (pe_ix (ixL K) (pv 1) (pe_op op_sub (pe_op op_mod (pv 0) pe_int) pe_int) (fun _ _ => rfl))) (pss_cons (ps_set (i := 3) sc_l_kind_by.nd rfl (.inl rfl) (pe_op op_mod (pe_op op_fdiv (pv 0) pe_int) (pe_callB call_lenZ (by rfl) T.n_len PySem.boot_len (pa_cons (pv 2) pa_nil)))) (pss_cons (ps_set (i := 4) sc_l_kind_by.nd rfl (.inl rfl) (pe_ix ix_str pe_str (pe_cx c_l_mixed hr (by decide) rfl (takes_of rfl rfl rfl rfl) (pa_cons (pv 0) (pa_cons pe_int (pa_cons pe_int pa_nil)))) (fun _ _ => rfl))) (pss_cons (ps_ret (pe_op op_addZ (pe_op op_addZ (pe_slice C8.sl_txt (pv 2) po_none (po_some (pv 3))) (pv 4)) (pe_slice C8.sl_txt (pv 2) (po_some (pe_op op_add (pv 3) (pe_cx c_l_mixed hr (by decide) rfl (takes_of rfl rfl rfl rfl) (pa_cons (pv 0) (pa_cons pe_int (pa_cons pe_int pa_nil)))))) po_none))) pss_nil))))))), ?_⟩
    try dsimp only [cxOf, Cx.blk]
    refine Go.start (σ := [some (.int c), none, none, none, none]) ?_
    refine go_asgL (el_lst (by walk_at "ea") (by show 9 ≤ 100000; decide)) fun p1 hp1 => ?_
    refine go_asgL (el_catV (ev_var rfl) upd_same (el_lst (by walk_at "ea") (by show 12 ≤ 100000; decide)) (by show 21 ≤ 100000; decide)) fun p2 hp2 => ?_
    have e2 : Ex H (upd (upd H p1 (.lst (kinds9.map V.str))) p2 (.lst (some21.map V.str))) := (Ex.new hp1).trans (Ex.new hp2)
    have hs : SqL K (upd (upd H p1 (.lst (kinds9.map V.str))) p2 (.lst (some21.map V.str))) p2 (some21.map V.str) := sq_of upd_same
    show Go _ _ _ (upd (upd H p1 (.lst (kinds9.map V.str))) p2 (.lst (some21.map V.str)))
    generalize upd (upd H p1 (.lst (kinds9.map V.str))) p2 (.lst (some21.map V.str)) = G at *
    have c30 : 0 ≤ c % 30 ∧ c % 30 < 30 := by omega
    refine go_when (b := decide (c % 30 < 21)) (by walk_at "et") (fun h => ?_) (fun h => ?_)
    · have h21 : c % 30 < 21 := of_decide_eq_true h
      exact go_ret (v := .str (some21.getD (c % 30).toNat "")) (ev_op (ev_var rfl) (by walk_at "ev") (rv_ixL hs (at_map V.str some21 "" c30.1 h21))) fun H1 e1 => q _ H1 (e2.trans e1)
    have h21 : ¬ c % 30 < 21 := of_decide_eq_false h
    have l1 := some21_len (k := (c % 30 - 21).toNat) (by omega)
    have l2 := some9_pos (k := (c % 30 - 21).toNat) (by omega)
    refine go_asg (v := .str (some21.getD (c % 30 - 21).toNat "")) (ev_op (ev_var rfl) (by walk_at "ev") (rv_ixL hs (at_map V.str some21 "" (by omega) (by show c % 30 - 21 < 21; omega)))) ?_
    generalize some21.getD (c % 30 - 21).toNat "" = w at *
    refine go_asg (v := .int (c / 30 % (w.length : Int))) (ev_op (by walk_at "ev") (ev_lenZ (ev_var rfl) (by omega)) (rv_I (by show (0 : Int) < (w.length : Int); omega))) ?_
    have m26 := mixed_in (c := c) (k := 1) (m := 26) (by decide)
    have hlen26 : (Str.ofString "abcdefghijklmnopqrstuvwxyz").cps.toList.length = 26 := by decide +kernel
    obtain ⟨y, hy⟩ : ∃ y, atI (Str.ofString "abcdefghijklmnopqrstuvwxyz").cps.toList (mixed c 1 26) = some y := by
      rw [show mixed c 1 26 = ((mixed c 1 26).toNat : Int) by omega]
      have hlt : (mixed c 1 26).toNat < (Str.ofString "abcdefghijklmnopqrstuvwxyz").cps.toList.length := by rw [hlen26]; omega
      exact ⟨_, atI_nat (List.getElem?_eq_getElem hlt)⟩
    refine go_asg (v := .str ⟨#[y]⟩) (ev_op ev_c (by walk_at "ev") (fun H1 _ Q q => ⟨_, _, _, rfl, rfl, sz_of (by decide +kernel), hy, q H1 (Ex.refl H1)⟩)) ?_
    have s1 := slice_len w none (some (c / 30 % (w.length : Int)))
    have s2 := slice_len w (some (c / 30 % (w.length : Int) + mixed c 2 2)) none
    have lc : (Txt.slice w none (some (c / 30 % (w.length : Int))) ++ (⟨#[y]⟩ : Str)).length = (Txt.slice w none (some (c / 30 % (w.length : Int)))).length + 1 := by
      show ((Txt.slice w none (some (c / 30 % (w.length : Int)))).cps ++ #[y]).size = _
      rw [Array.size_append]; rfl
    exact go_ret (ev_addZ (ev_addZ (ev_slX (ev_var rfl) eo_none (eo_some (ev_var rfl)) (by omega)) (ev_var rfl) (by show _ + 1 ≤ _; omega)) (ev_slX (ev_var rfl) (eo_some (ev_op (ev_var rfl) (by walk_at "ev") rv_I0)) eo_none (by omega)) (by rw [lc]; omega)) fun H1 e1 => q _ H1 (e2.trans e1)

end

section
variable {P : Program} {w : World} {K : PySem.W.Frag} {mg : Str → Option Value} {base : Heap} {A : Ads}
def BoundsAt (K : PySem.W.Frag) (G : Hp) (v : V) (r : Except Err (Int × Int)) : Prop := match r with
  | .ok b => PairAt K G v b
  | .error _ => v = .non
def sp_l_bounds (K : PySem.W.Frag) (A : Ads) : Sp := fun vs H Q E => ∃ z, vs = [.str z] ∧ ∀ v H', Ex H H' → BoundsAt K H' v (wantsM z) → Q v H'
theorem sg_bounds {K : PySem.W.Frag} {A : Ads} {G : Hp} {z : Str} : SpG (sp_l_bounds K A) [.str z] G fun v G' => BoundsAt K G' v (wantsM z) := fun H e Q _ q =>
  ⟨z, rfl, fun v H' e' h => q v H' H' (e.trans e') (Ex.refl _) e' h⟩
theorem ok_l_bounds {f : Addr} {fd : FuncData} (F : Fun K "_law_bounds" "_law_bounds" s_l_bounds f fd) (T : Txt K w mg A)  : FnOk P w K mg base (L2.CX P w) 1 f fd ["_law_kind"] (sp_l_bounds K A) := by
  refine F.okX sc_l_bounds (fun vs H Q E h => ?_) (fun cdv A_ outer s H vs Q E hr h => ?_)
  · obtain ⟨z, rfl, _⟩ := h; rfl
  · obtain ⟨z, rfl, q⟩ := h
    refine ⟨_, (pss_cons (ps_for (passes_of rfl) rfl (pi_range1 rfl T.n_range (pa_cons pe_int pa_nil)) (pg_name (i := 1) sc_l_bounds.nd rfl (.inl rfl)) (pss_cons (ps_if (pt_cmpR op_eq (pv 0) (pe_ix (ixL K) (pe_lst (pa_cons pe_str (pa_cons pe_str (pa_cons pe_str (pa_cons pe_str (pa_cons pe_str (pa_cons pe_str (pa_cons pe_str (pa_cons pe_str (pa_cons pe_str pa_nil)))))))))) (pv 1) (fun _ _ => rfl)) (nomark _)) (pss_cons (ps_ret (pe_ix (ixL K) (pe_lst (pa_cons (pe_tup (pa_cons pe_int (pa_cons pe_int pa_nil))) (pa_cons (pe_tup (pa_cons pe_int (pa_cons pe_int pa_nil))) (pa_cons (pe_tup (pa_cons pe_int (pa_cons pe_int pa_nil))) (pa_cons (pe_tup (pa_cons pe_int (pa_cons pe_int pa_nil))) (pa_cons (pe_tup (pa_cons pe_int (pa_cons pe_int pa_nil))) (pa_cons (pe_tup (pa_cons pe_int (pa_cons pe_int pa_nil))) (pa_cons (pe_tup (pa_cons pe_int (pa_cons pe_int pa_nil))) (pa_cons (pe_tup (pa_cons pe_int (pa_cons pe_int pa_nil))) (pa_cons (pe_tup (pa_cons pe_int (pa_cons pe_int pa_nil))) pa_nil)))))))))) (pv 1) (fun _ _ => rfl))) pss_nil) pss_nil) pss_nil)) (pss_cons (ps_ret pe_non) pss_nil)), ?_⟩
    try dsimp only [cxOf, Cx.blk]
    refine Go.start (σ := [some (.str z), none]) ?_
    refine go_forR1 H (n := 9) (by walk_at "ea") (by omega) (Ex.refl _) (fun k σ' G' => ∃ y, σ' = [some (.str z), y] ∧ ∀ j : Nat, (j : Int) < k → z ≠ kinds9.getD j "") ⟨none, rfl, fun j hj => by omega⟩ ?_ ?_
    · rintro k σ' G' k0 k1 e ⟨y, rfl, hk⟩
      obtain ⟨i, rfl⟩ : ∃ i : Nat, k = (i : Int) := ⟨k.toNat, by omega⟩
      have hi : i < 9 := by omega
      have hat : atI (kinds9.map V.str) (i : Int) = some (.str (kinds9.getD i "")) := at_map V.str kinds9 "" k0 (by exact k1)
      refine go_when (b := decide (z = kinds9.getD i "")) (et_test (ev_op (ev_var rfl) (ev_ixLit (el_lst (by walk_at "ea") (by show 9 ≤ 100000; decide)) (ev_var rfl) (by exact hat)) rv_eqS)) (fun h => ?_) (fun h => ?_)
      · have hz : z = kinds9.getD i "" := of_decide_eq_true h
        obtain ⟨b, hb, hw⟩ := pairs9_ok hi
        refine go_retP (P := fun v G' => PairAt K G' v b) (ep_ixL (bs := pairs9) (R := PairAt K) (b := b) (k := i) (by exact ep_pairs pairs9 (by decide)) (ev_var rfl) hb) fun v G1 H1 e1 e2 hp => q v H1 ((e.trans e1).trans e2) ?_
        rw [hz, hw]
        exact hp.mono e2
      · have hz : ¬ z = kinds9.getD i "" := of_decide_eq_false h
        refine go_kb e ⟨_, rfl, fun j hj => ?_⟩
        by_cases c : j = i
        · subst c; exact hz
        · exact hk j (by omega)
    · rintro σ' G' e ⟨y, rfl, hk⟩
      refine go_ret ev_c fun H1 e1 => q .non H1 (e.trans e1) ?_
      rw [wants_none fun k hlt => hk k (by omega)]
      rfl

end

section
variable {P : Program} {w : World} {K : PySem.W.Frag} {mg : Str → Option Value} {base : Heap} {A : Ads}
def sp_l_truths (K : PySem.W.Frag) (A : Ads) : Sp := fun vs H Q E => ∃ c n : Int, vs = [.int c, .int n] ∧ 0 ≤ n ∧ n ≤ 40000 ∧ ∀ q H', H q = none → Ex H H' → H' q = some (.lst ((truthsM c n).map V.bl)) → Q (.ref q) H'
theorem sl_truths {K : PySem.W.Frag} {A : Ads} {G : Hp} {c n : Int} (h : 0 ≤ n) (h2 : n ≤ 40000) : SpL (sp_l_truths K A) [.int c, .int n] G ((truthsM c n).map V.bl) := fun H e Q q _ =>
  ⟨c, n, rfl, h, h2, fun p H' h1 h2 h3 => q p H' h1 h2 h3⟩
theorem ok_l_truths {f : Addr} {fd : FuncData} (F : Fun K "_law_truths" "_law_truths" s_l_truths f fd) (T : Txt K w mg A) (c_l_mixed : CalX P w K mg base 1 "_law_mixed" (sp_l_mixed K A)) : FnOk P w K mg base (L2.CX P w) 2 f fd ["_law_cell", "_law_many"] (sp_l_truths K A) := by
  refine F.okX sc_l_truths (fun vs H Q E h => ?_) (fun cdv A_ outer s H vs Q E hr h => ?_)
  · obtain ⟨c, n, rfl, _⟩ := h; rfl
  · obtain ⟨c, n, rfl, h0, h1, q⟩ := h
    refine ⟨_, (pss_cons (ps_ret (pe_lc (own := [("_law_k", 2)]) (g := gName 2) (tt := tYes) rfl sc_l_truths.nd (pi_range1 rfl T.n_range (pa_cons (pv 1) pa_nil)) (blkOk_by (own := [("_law_k", 2)]) (N := ["_law_cell", "_law_many", "_law_k"]) (sc := defScope s_l_truths) (by decide +kernel)) (fun _ _ _ _ _ => pg_name (i := 2) sc_l_truths.nd rfl (Or.inl rfl)) (fun _ _ _ _ _ => pts_nil) (fun _ _ _ _ _ => (pe_cmpR op_eq (pe_cx c_l_mixed hr (by decide) rfl takes0 (pa_cons (pv 0) (pa_cons (pv 2) (pa_cons pe_int pa_nil)))) pe_int (nomark _))))) pss_nil), ?_⟩
    try dsimp only [cxOf, Cx.blk]
    refine Go.start (σ := [some (.int c), some (.int n), none]) ?_
    have el := el_lcR (G := H) (σ := [some (.int c), some (.int n), none]) (te := tOp rEq (tCallS (sp_l_mixed K A) (fun _ => fun _ _ _ => False) (tCons (tVar 0) (tCons (tVar 2) (tCons (tC (.int 2)) tNil)))) (tC (.int 1))) (ta := tCons (tVar 1) tNil) (j := 2) (vs := [2]) (n := n) (fun k => .bl (decide (mixed c k 2 = 1))) (ea_cons (ev_var rfl) ea_nil) ⟨h0, h1⟩ (fun _ => rfl) fun k k0 k1 => ev_op (by walk_at "ev") ev_c rv_eqI
    have e : ((List.range n.toNat).map fun i : Nat => V.bl (decide (mixed c (i : Int) 2 = 1))) = (truthsM c n).map V.bl := by
      unfold truthsM
      rw [List.map_map]; rfl
    rw [e] at el
    exact go_retL el fun p H1 hp e1 hl => q p H1 hp e1 hl

end

section
variable {P : Program} {w : World} {K : PySem.W.Frag} {mg : Str → Option Value} {base : Heap} {A : Ads}
def sp_wants (K : PySem.W.Frag) (A : Ads) : Sp := fun vs H Q E => ∃ z, vs = [.str z] ∧ Out A H Q E (RT1 K fun b : Int × Int => [.int b.1, .int b.2]) (wantsM z)
theorem ok_wants {f : Addr} {fd : FuncData} (F : Fun K "wants" "wants" s_wants f fd) (T : Txt K w mg A)  : FnOk P w K mg base (L2.CX P w) 1 f fd ["kind"] (sp_wants K A) := by
  refine F.okX sc_wants (fun vs H Q E h => ?_) (fun cdv A_ outer s H vs Q E hr h => ?_)
  · obtain ⟨z, rfl, _⟩ := h; rfl
  · obtain ⟨z, rfl, o⟩ := h
    refine ⟨_, (pss_cons (ps_if (pt_cmpR (op_notIn_least T.d_LEAST) (pv 0) (pe_glob (v := .ref A.LEAST) rfl T.c_LEAST rfl) rfl) (pss_cons (ps_raise rfl (takes_of rfl rfl rfl rfl) (pmk_own PySem.F.excBase_ValueError T.x_NoKind T.g_NoKind T.k_NoKind (raises_own T.b_NoKind T.t_NoKind) rfl)) pss_nil) pss_nil) (pss_cons (ps_set (i := 1) sc_wants.nd rfl (.inl rfl) (pe_ix (ix_least T.d_LEAST) (pe_glob (v := .ref A.LEAST) rfl T.c_LEAST rfl) (pv 0) (fun _ _ => rfl))) (pss_cons (ps_if (pt_cmpR op_eq (pv 1) pe_int (nomark _)) (pss_cons (ps_ret (pe_tup (pa_cons (pv 1) (pa_cons (pe_gv rfl T.c_MANY_SOURCES) pa_nil)))) pss_nil) pss_nil) (pss_cons (ps_ret (pe_tup (pa_cons (pv 1) (pa_cons (pv 1) pa_nil)))) pss_nil)))), ?_⟩
    try dsimp only [cxOf, Cx.blk]
    refine Go.start (σ := [some (.str z), none]) ?_
    refine go_when (b := !(least z).isSome) (et_test (ev_op (ev_var rfl) ev_c rv_notLeast)) (fun h => ?_) (fun h => ?_)
    · cases e : least z with
      | none => exact go_raise fun _ _ H1 e1 => o.err .kind (by unfold wantsM; rw [e]) e1
      | some i => rw [e] at h; cases h
    · cases e : least z with
      | none => rw [e] at h; cases h
      | some i =>
        refine go_asg (ev_op ev_c (ev_var rfl) (rv_itLeast e)) ?_
        refine go_when (et_test (by walk_at "ev")) (fun h => ?_) (fun h => ?_)
        · have h2 : i = 2 := of_decide_eq_true h
          refine go_retU (eu_tup (by walk_at "ea") (by show 2 ≤ 100000; decide)) fun p H1 hp e1 h1 => ?_
          exact o.ok (2, 9) (by unfold wantsM; rw [e, h2]; rfl) e1 ⟨p, rfl, by rw [h2] at h1; exact st_of h1⟩
        · have h2 : ¬ i = 2 := of_decide_eq_false h
          refine go_retU (eu_tup (by walk_at "ea") (by show 2 ≤ 100000; decide)) fun p H1 hp e1 h1 => ?_
          exact o.ok (i, i) (by unfold wantsM; rw [e]; simp [h2]) e1 ⟨p, rfl, st_of h1⟩

end

section
variable {P : Program} {w : World} {K : PySem.W.Frag} {mg : Str → Option Value} {base : Heap} {A : Ads}
def sp_answer (K : PySem.W.Frag) (A : Ads) : Sp := fun vs H Q E => ∃ z a bs, vs = [.str z, .ref a] ∧ SqL K H a (bs.map V.bl) ∧ bs.length ≤ 40000 ∧ Out A H Q E (RV1 V.bl) (answerM z bs)
theorem least_two {z : Str} (h : least z = some 2) : z = "both" ∨ z = "either" ∨ z = "unlike" := by
  unfold least at h
  repeat' split at h
  all_goals first | (left; assumption) | (right; left; assumption) | (right; right; assumption) | (cases h)
theorem ok_answer {f : Addr} {fd : FuncData} (F : Fun K "answer" "answer" s_answer f fd) (T : Txt K w mg A) (c_wants : CalX P w K mg base 1 "wants" (sp_wants K A)) : FnOk P w K mg base (L2.CX P w) 2 f fd ["kind", "given"] (sp_answer K A) := by
  refine F.okX sc_answer (fun vs H Q E h => ?_) (fun cdv A_ outer s H vs Q E hr h => ?_)
  · obtain ⟨z, a, bs, rfl, _⟩ := h; rfl
  · obtain ⟨z, a, bs, rfl, hS, hz, o⟩ := h
    refine ⟨_, (pss_cons (ps_set (i := 2) sc_answer.nd rfl (.inl rfl) (pe_cx c_wants hr (by decide) rfl (takes_of rfl rfl rfl rfl) (pa_cons (pv 0) pa_nil))) (pss_cons (ps_if (pt_not (pt_chain op_le op_le (pe_ix (ixT K) (pv 2) pe_int (fun _ _ => rfl)) (pe_callB (c_len K) (by rfl) T.n_len PySem.boot_len (pa_cons (pv 1) pa_nil)) (pe_ix (ixT K) (pv 2) pe_int (fun _ _ => rfl)))) (pss_cons (ps_raise rfl (takes_of rfl rfl rfl rfl) (pmk_own PySem.F.excBase_ValueError T.x_NoSources T.g_NoSources T.k_NoSources (raises_own T.b_NoSources T.t_NoSources) rfl)) pss_nil) pss_nil) (pss_cons (ps_if (PW.pt (pw_or (pt_cmpR op_eq (pv 0) pe_str (nomark _)) (pw_or1 (pt_cmpR op_eq (pv 0) pe_str (nomark _))))) (pss_cons (ps_ret (pe_cmpR op_eq (pv 0) pe_str (nomark _))) pss_nil) pss_nil) (pss_cons (ps_if (PW.pt (pw_or (pt_cmpR op_eq (pv 0) pe_str (nomark _)) (pw_or1 (pt_cmpR op_eq (pv 0) pe_str (nomark _))))) (pss_cons (ps_ret (pe_cmpR op_eq (pe_ix (ixL K) (pv 1) pe_int (fun _ _ => rfl)) (pe_cmpR op_eq (pv 0) pe_str (nomark _)) (nomark _))) pss_nil) pss_nil) (pss_cons (ps_if (pt_cmpR op_eq (pv 0) pe_str (nomark _)) (pss_cons (ps_ret (pe_callB (c_all K rfl) (by rfl) T.n_all (by decide +kernel) (pa_cons (pv 1) pa_nil))) pss_nil) pss_nil) (pss_cons (ps_if (pt_cmpR op_eq (pv 0) pe_str (nomark _)) (pss_cons (ps_ret (pe_callB (c_any K rfl) (by rfl) T.n_any (by decide +kernel) (pa_cons (pv 1) pa_nil))) pss_nil) pss_nil) (pss_cons (ps_if (pt_cmpR op_eq (pv 0) pe_str (nomark _)) (pss_cons (ps_ret (pe_ifExp (pt_val (pe_ix (ixL K) (pv 1) pe_int (fun _ _ => rfl))) (pe_ix (ixL K) (pv 1) pe_int (fun _ _ => rfl)) (pe_ix (ixL K) (pv 1) pe_int (fun _ _ => rfl)))) pss_nil) pss_nil) (pss_cons (ps_set (i := 3) sc_answer.nd rfl (.inl rfl) (pe_callB (c_len K) (by rfl) T.n_len PySem.boot_len (pa_cons (pe_lc (own := [("one", 4)]) (g := gName 4) rfl sc_answer.nd (pi_L K (pv 1)) (blkOk_by (own := [("one", 4)]) (N := ["kind", "given", "bounds", "many", "one"]) (sc := defScope s_answer) (by decide +kernel)) (fun _ _ _ _ _ => pg_name (i := 4) sc_answer.nd rfl (Or.inl rfl)) (fun _ _ _ _ _ => (pts_one (pt_val (pv 4)))) (fun _ _ _ _ _ => (pv 4))) pa_nil))) (pss_cons (ps_if (pt_cmpR op_eq (pv 0) pe_str (nomark _)) (pss_cons (ps_ret (pe_cmpR op_ge (pv 3) pe_int (nomark _))) pss_nil) pss_nil) (pss_cons (ps_ret (pe_cmpR op_eq (pe_op op_mod (pv 3) pe_int) pe_int (nomark _))) pss_nil)))))))))), ?_⟩
    try dsimp only [cxOf, Cx.blk]
    refine Go.start (σ := [some (.str z), some (.ref a), none, none, none]) ?_
    cases hw : wantsM z with
    | error x =>
      refine go_asgF (ef_call (by walk_at "ea") fun H1 e1 Q1 => ⟨z, rfl, out_err hw fun H2 e2 => ?_⟩)
      exact o.err x (by unfold answerM; rw [hw]) (e1.trans e2)
    | ok b =>
      obtain ⟨lo, hi⟩ := b
      refine go_asgP (ep_call (by walk_at "ea") (spg_out (r := wantsM z) (R := RT1 K fun b : Int × Int => [.int b.1, .int b.2]) (A := A) (fun H1 e1 Q1 E1 o1 => ⟨z, rfl, o1⟩) hw)) (fun v G1 e1 hv => ?_)
      obtain ⟨H0, _, _, p, rfl, hp⟩ := hv
      have hp : SqT K G1 p [.int lo, .int hi] := hp
      have hS1 := ex_l e1 hS
      have hl : (bs.map V.bl).length = bs.length := List.length_map _
      have i0 : atI [V.int lo, V.int hi] 0 = some (.int lo) := rfl
      have i1 : atI [V.int lo, V.int hi] 1 = some (.int hi) := rfl
      have el : Ev (tCB (rLenS K) (tCons (tVar 1) tNil)) [some (.str z), some (.ref a), some (.ref p), none, none] G1 (.int (bs.length : Int)) := hl ▸ ev_len (ev_var rfl) hS1
      refine go_when (b := !(decide (lo ≤ (bs.length : Int)) && decide ((bs.length : Int) ≤ hi))) (et_not (et_test (ev_chI (by walk_at "ev") el (by walk_at "ev")))) (fun h => ?_) (fun h => ?_)
      · have h2 : ¬ (lo ≤ (bs.length : Int) ∧ (bs.length : Int) ≤ hi) := fun ⟨p, q⟩ => by simp [p, q] at h
        exact go_raise fun _ _ H1 e2 => o.err .sources (by unfold answerM; rw [hw]; simp [h2]) (e1.trans e2)
      · have h2 : lo ≤ (bs.length : Int) ∧ (bs.length : Int) ≤ hi := by simpa using h
        have hm : answerM z bs = .ok (answerV z bs) := by unfold answerM; rw [hw]; simp [h2]
        have fin : ∀ b : Bool, answerV z bs = b → ∀ H1, Ex G1 H1 → Q (.bl b) H1 := fun b hb H1 e2 => o.ok _ hm (e1.trans e2) (by rw [hb]; rfl)
        -- how many
        have hlo : ∀ i, least z = some i → lo = i ∧ hi = if i = 2 then 9 else i := fun i hi' => by
          unfold wantsM at hw; rw [hi'] at hw; injection hw with hw; injection hw with h3 h4; exact ⟨h3.symm, h4.symm⟩
        have bit : ∀ k : Nat, (k : Int) < bs.length → atI (bs.map V.bl) (k : Int) = some (.bl (bs.getD k false)) := fun k hk => by
          have := at_map V.bl bs false (k := (k : Int)) (by omega) hk
          simpa using this
        refine go_when (by walk_at "et") (fun h => ?_) (fun h => ?_)
        · have h3 : z = "yes" ∨ z = "no" := by simpa using h
          exact go_ret (by walk_at "ev") fun H1 e2 => fin _ (by unfold answerV; rw [if_pos h3]) H1 e2
        have n1 : ¬ (z = "yes" ∨ z = "no") := by simpa using h
        refine go_when (by walk_at "et") (fun h => ?_) (fun h => ?_)
        · have h3 : z = "keep" ∨ z = "not" := by simpa using h
          have h4 : least z = some 1 := by rcases h3 with rfl | rfl <;> rfl
          have b0 := bit 0 (by have := (hlo 1 h4).1; omega)
          have b0' : atI (bs.map V.bl) 0 = some (.bl (bs.getD 0 false)) := b0
          exact go_ret (by walk_at "ev") fun H1 e2 => fin _ (by unfold answerV; rw [if_neg n1, if_pos h3]) H1 e2
        have n2 : ¬ (z = "keep" ∨ z = "not") := by simpa using h
        refine go_when (by walk_at "et") (fun h => ?_) (fun h => ?_)
        · have h3 : z = "both" := by simpa using h
          exact go_ret (by walk_at "ev") fun H1 e2 => fin _ (by unfold answerV; rw [if_neg n1, if_neg n2, if_pos h3]) H1 e2
        have n3 : ¬ z = "both" := by simpa using h
        refine go_when (by walk_at "et") (fun h => ?_) (fun h => ?_)
        · have h3 : z = "either" := by simpa using h
          exact go_ret (by walk_at "ev") fun H1 e2 => fin _ (by unfold answerV; rw [if_neg n1, if_neg n2, if_neg n3, if_pos h3]) H1 e2
        have n4 : ¬ z = "either" := by simpa using h
        refine go_when (by walk_at "et") (fun h => ?_) (fun h => ?_)
        · have h3 : z = "pick" := by simpa using h
          have h4 : least z = some 3 := by rw [h3]; rfl
          have l3 : (3 : Int) ≤ bs.length := by have := (hlo 3 h4).1; omega
          have b0 : atI (bs.map V.bl) 0 = some (.bl (bs.getD 0 false)) := bit 0 (by omega)
          have b1 : atI (bs.map V.bl) 1 = some (.bl (bs.getD 1 false)) := bit 1 (by omega)
          have b2 : atI (bs.map V.bl) 2 = some (.bl (bs.getD 2 false)) := bit 2 (by omega)
          refine go_ret (v := .bl (if bs.getD 0 false = true then bs.getD 1 false else bs.getD 2 false)) (ev_if (by walk_at "et") (fun h => ?_) (fun h => ?_)) fun H1 e2 => fin _ (by unfold answerV; rw [if_neg n1, if_neg n2, if_neg n3, if_neg n4, if_pos h3]) H1 e2
          · rw [if_pos h]; walk_at "ev"
          · rw [if_neg (by rw [h]; decide)]; walk_at "ev"
        have n5 : ¬ z = "pick" := by simpa using h
        have ef : Ev (tCB (rLenS K) (tCons (tLc (iList K (tVar 1)) (gName 4) (tB (tVar 4)) (tVar 4) [4]) tNil)) [some (.str z), some (.ref a), some (.ref p), none, none] G1 (.int ((bs.filter id).length : Int)) := by
          have q := ev_lenN (K := K) (el_lcF (K := K) (σ := [some (.str z), some (.ref a), some (.ref p), none, none]) (G := G1) (tl := tVar 1) (t := tB (tVar 4)) (te := tVar 4) (j := 4) (vs := [4]) bs V.bl id V.bl (ev_var rfl) hS1 hz (fun _ => rfl)
            (fun x _ => et_B (ev_var rfl)) (fun x _ _ => ev_var rfl))
          rw [List.length_map] at q
          exact q
        refine go_asg ef ?_
        refine go_when (by walk_at "et") (fun h => ?_) (fun h => ?_)
        · have h3 : z = "most" := by simpa using h
          exact go_ret (by walk_at "ev") fun H1 e2 => fin _ (by unfold answerV; rw [if_neg n1, if_neg n2, if_neg n3, if_neg n4, if_neg n5, if_pos h3]) H1 e2
        have n6 : ¬ z = "most" := by simpa using h
        exact go_ret (by walk_at "ev") fun H1 e2 => fin _ (by unfold answerV; rw [if_neg n1, if_neg n2, if_neg n3, if_neg n4, if_neg n5, if_neg n6]) H1 e2

end

section
variable {P : Program} {w : World} {K : PySem.W.Frag} {mg : Str → Option Value} {base : Heap} {A : Ads}
def wordM (z : Str) (bs : List Bool) : Str := match answerM z bs with
  | .ok _ => ""
  | .error .kind => "kind"
  | .error _ => "sources"
def sp_l_word (K : PySem.W.Frag) (A : Ads) : Sp := fun vs H Q E => ∃ z a bs, vs = [.str z, .ref a] ∧ SqL K H a ((bs : List Bool).map V.bl) ∧ bs.length ≤ 40000 ∧ RetV (.str (wordM z bs)) H Q
theorem sv_word {K : PySem.W.Frag} {A : Ads} {G : Hp} {z : Str} {a : Addr} {bs : List Bool} (h : SqL K G a (bs.map V.bl)) (hn : bs.length ≤ 40000) : SpV (sp_l_word K A) [.str z, .ref a] G (.str (wordM z bs)) := fun _ e _ q _ =>
  ⟨z, a, bs, rfl, ex_l e h, hn, q⟩
theorem ok_l_word {f : Addr} {fd : FuncData} (F : Fun K "_law_word" "_law_word" s_l_word f fd) (T : Txt K w mg A) (c_answer : CalX P w K mg base 2 "answer" (sp_answer K A)) : FnOk P w K mg base (L2.CX P w) 3 f fd ["_law_kind", "_law_given"] (sp_l_word K A) := by
  refine F.okX sc_l_word (fun vs H Q E h => ?_) (fun cdv A_ outer s H vs Q E hr h => ?_)
  · obtain ⟨z, a, bs, rfl, _⟩ := h; rfl
  · obtain ⟨z, a, bs, rfl, hS, hn, q⟩ := h
    refine ⟨_, (pss_cons (ps_set (i := 2) sc_l_word.nd rfl (.inl rfl) pe_str) (pss_cons (ps_try_many rfl rfl (takes_of rfl rfl rfl rfl) (fun W_ pn_ xq_ tk_ xe_ => (pss_cons (ps_set (i := 3) sc_l_word.nd rfl (.inl rfl) (pe_cx c_answer hr (by decide) rfl tk_ (pa_cons (pv 0) (pa_cons (pv 1) pa_nil)))) (pss_cut (ps_if (pt_not (pt_val (pe_callB (c_isi K) (by rfl) T.n_isinstance (by decide +kernel) (pa_cons (pv 3) (pa_cons (pe_bltn (v := .ty "bool") rfl T.n_bool (by decide +kernel) rfl) pa_nil))))) (pss_cons (ps_set (i := 2) sc_l_word.nd rfl (.inl rfl) pe_str) pss_nil) pss_nil) pss_nil))) (.cons ⟨rfl, by decide, .inl T.g_NoKind⟩ (fun a_ oe_ cls_ d_ pn_ hz_ hf_ => (pss_cons (ps_set (i := 2) sc_l_word.nd rfl (.inl rfl) pe_str) pss_nil)) (.cons ⟨rfl, by decide, .inl T.g_NoSources⟩ (fun a_ oe_ cls_ d_ pn_ hz_ hf_ => (pss_cons (ps_set (i := 2) sc_l_word.nd rfl (.inl rfl) pe_str) pss_nil)) .nil))) (pss_cons (ps_ret (pv 2)) pss_nil))), ?_⟩
    try dsimp only [cxOf, Cx.blk]
    refine Go.start (σ := [some (.str z), some (.ref a), none, none]) ?_
    refine go_asg ev_c ?_
    walk_at "try"
    cases h : answerM z bs with
    | ok b =>
      have hw : wordM z bs = "" := by unfold wordM; rw [h]
      rw [hw] at q
      refine go_asg (v := .bl b) (ev_callS (by walk_at "ea") (spv_out (r := answerM z bs) (A := A) (f := V.bl) (fun H1 e1 Q1 E1 o1 => ⟨z, a, bs, rfl, ex_l e1 hS, hn, o1⟩) h)) ?_
      refine go_cutN (go_ifs (b := !true) (et_not (et_B (ev_isi (ev_var rfl) ev_c (.ty _) (.base (.bl _)) (kit_ty (by decide +kernel))))) (fun h => (by cases h)) (fun _ => ?_))
      exact go_up (go_ret (ev_var rfl) fun H1 e1 => q H1 e1)
    | error e =>
      refine go_asgF (ef_call (vs := [.str z, .ref a]) (by walk_at "ea") fun H1 e1 Q1 => ⟨z, a, bs, rfl, ex_l e1 hS, hn, out_err (x := e) h fun H2 e2 => ?_⟩)
      rcases answer_errs h with rfl | rfl
      · have hw : wordM z bs = "kind" := by unfold wordM; rw [h]
        rw [hw] at q
        refine wm_hit T.m_NoKind_NoKind (e1.trans e2) fun a ha => ?_
        exact go_asg ev_c (go_up (go_ret (ev_var rfl) fun H1 e1 => q H1 e1))
      · have hw : wordM z bs = "sources" := by unfold wordM; rw [h]
        rw [hw] at q
        refine wm_miss T.m_NoSources_NoKind (wm_hit T.m_NoSources_NoSources (e1.trans e2) fun a ha => ?_)
        exact go_asg ev_c (go_up (go_ret (ev_var rfl) fun H1 e1 => q H1 e1))

end

section
variable {P : Program} {w : World} {K : PySem.W.Frag} {mg : Str → Option Value} {base : Heap} {A : Ads}
def sp_l_refused_by_any (K : PySem.W.Frag) (A : Ads) : Sp := fun vs H Q E => ∃ z a bs e, vs = [.str z, .ref a] ∧ SqL K H a ((bs : List Bool).map V.bl) ∧ bs.length ≤ 40000 ∧ answerM z bs = .error e ∧ RetV (.bl true) H Q
theorem sv_refused_by_any {K : PySem.W.Frag} {A : Ads} {G : Hp} {z : Str} {a : Addr} {bs : List Bool} {e : Err} (h : SqL K G a (bs.map V.bl)) (hn : bs.length ≤ 40000) (he : answerM z bs = .error e) : SpV (sp_l_refused_by_any K A) [.str z, .ref a] G (.bl true) := fun _ e1 _ q _ =>
  ⟨z, a, bs, e, rfl, ex_l e1 h, hn, he, q⟩
theorem ok_l_refused_by_any {f : Addr} {fd : FuncData} (F : Fun K "_law_refused_by_any" "_law_refused_by_any" s_l_refused_by_any f fd) (T : Txt K w mg A) (c_answer : CalX P w K mg base 2 "answer" (sp_answer K A)) : FnOk P w K mg base (L2.CX P w) 3 f fd ["_law_kind", "_law_given"] (sp_l_refused_by_any K A) := by
  refine F.okX sc_l_refused_by_any (fun vs H Q E h => ?_) (fun cdv A_ outer s H vs Q E hr h => ?_)
  · obtain ⟨z, a, bs, e, rfl, _⟩ := h; rfl
  · obtain ⟨z, a, bs, e, rfl, hS, hn, h, q⟩ := h
    refine ⟨_, (pss_cons (ps_try_as (i := 2) rfl rfl sc_l_refused_by_any.nd rfl rfl ⟨rfl, by decide, .inl T.g_SignalError⟩ (takes_of rfl rfl rfl rfl) (fun W_ pn_ xq_ tk_ xe_ => (pss_cons (ps_expr (pe_cx c_answer hr (by decide) rfl tk_ (pa_cons (pv 0) (pa_cons (pv 1) pa_nil)))) pss_nil)) (fun a_ oe_ cls_ d_ pn_ hz_ hf_ => (pss_cons (ps_ret (pe_callB (call_isX K hz_ hf_) (by rfl) T.n_isinstance (by decide +kernel) (pa_cons (pv 2) (pa_cons (pe_bltn (v := .ty "ValueError") rfl T.n_ValueError (by decide +kernel) rfl) pa_nil)))) pss_nil))) (pss_cons (ps_ret pe_bl) pss_nil)), ?_⟩
    try dsimp only [cxOf, Cx.blk]
    refine Go.start (σ := [some (.str z), some (.ref a), none]) ?_
    walk_at "try"
    refine go_dropF (ef_call (vs := [.str z, .ref a]) (by walk_at "ea") fun H1 e1 Q1 => ⟨z, a, bs, rfl, ex_l e1 hS, hn, out_err (x := e) h fun H2 e2 => ?_⟩)
    rcases answer_errs h with rfl | rfl
    · refine wa_hit T.m_NoKind_SignalError (e1.trans e2) fun a ha => ?_
      exact go_ret (ev_isX (ev_var rfl) ev_c T.e_NoKind (fun _ h => h) T.v_NoKind) fun H1 e1 => q H1 e1
    · refine wa_hit T.m_NoSources_SignalError (e1.trans e2) fun a ha => ?_
      exact go_ret (ev_isX (ev_var rfl) ev_c T.e_NoSources (fun _ h => h) T.v_NoSources) fun H1 e1 => q H1 e1

end

section
variable {P : Program} {w : World} {K : PySem.W.Frag} {mg : Str → Option Value} {base : Heap} {A : Ads}
def sp_l_whole (K : PySem.W.Frag) (A : Ads) : Sp := fun vs H Q E => ∃ i, vs = [.int i] ∧ RetV (.bl true) H Q
theorem sv_whole {K : PySem.W.Frag} {A : Ads} {G : Hp} {i : Int} : SpV (sp_l_whole K A) [.int i] G (.bl true) := fun _ e _ q _ => ⟨i, rfl, q⟩
theorem ok_l_whole {f : Addr} {fd : FuncData} (F : Fun K "_law_whole" "_law_whole" s_l_whole f fd) (T : Txt K w mg A)  : FnOk P w K mg base (L2.CX P w) 1 f fd ["_law_found"] (sp_l_whole K A) := by
  refine F.okX sc_l_whole (fun vs H Q E h => ?_) (fun cdv A_ outer s H vs Q E hr h => ?_)
  · obtain ⟨i, rfl, _⟩ := h; rfl
  · obtain ⟨i, rfl, q⟩ := h
    refine ⟨_, (pss_cons (ps_ret (pe_and (pe_callB (c_isi K) (by rfl) T.n_isinstance (by decide +kernel) (pa_cons (pv 0) (pa_cons (pe_bltn (v := .ty "int") rfl T.n_int (by decide +kernel) rfl) pa_nil))) (pe_one (pe_not (pe_callB (c_isi K) (by rfl) T.n_isinstance (by decide +kernel) (pa_cons (pv 0) (pa_cons (pe_bltn (v := .ty "bool") rfl T.n_bool (by decide +kernel) rfl) pa_nil))))))) pss_nil), ?_⟩
    try dsimp only [cxOf, Cx.blk]
    refine Go.start (σ := [some (.int i)]) ?_
    refine go_ret (v := .bl (true && !false)) (by walk_at "ev") fun H1 e1 => q H1 e1

end
local macro_rules | `(tactic| walk_at "sv") => `(tactic| exact sv_whole)

section
variable {P : Program} {w : World} {K : PySem.W.Frag} {mg : Str → Option Value} {base : Heap} {A : Ads}
def sp_law (K : PySem.W.Frag) (A : Ads) : Sp := fun vs H Q E => ∃ (a : Addr) (ns : List Int), vs = [.ref a] ∧ SqL K H a (ns.map V.int) ∧ ns.length ≤ 63 ∧ ∀ H', Q (.bl true) H'
theorem answer_kind {z : Str} {bs : List Bool} {e : Err} (h : wantsM z = .error e) : answerM z bs = .error e := by
  unfold answerM; rw [h]
theorem pair_dp {K : PySem.W.Frag} {G : Hp} {a : Addr} {b : Int × Int} (h : SqT K G a [.int b.1, .int b.2]) : Dp K G (.ref a) (.tuple [.int b.1, .int b.2]) := .tup h (.cons (.int _) (.cons (.int _) .nil))
theorem ok_law {f : Addr} {fd : FuncData} (F : Fun K "law" "law" s_law f fd) (T : Txt K w mg A) (c_l_cell_at : CalX P w K mg base 1 "_law_cell_at" (sp_l_cell_at K A)) (c_l_kind_by : CalX P w K mg base 2 "_law_kind_by" (sp_l_kind_by K A)) (c_l_bounds : CalX P w K mg base 1 "_law_bounds" (sp_l_bounds K A)) (c_l_truths : CalX P w K mg base 2 "_law_truths" (sp_l_truths K A)) (c_wants : CalX P w K mg base 1 "wants" (sp_wants K A)) (c_l_word : CalX P w K mg base 3 "_law_word" (sp_l_word K A)) (c_l_refused_by_any : CalX P w K mg base 3 "_law_refused_by_any" (sp_l_refused_by_any K A)) (c_l_whole : CalX P w K mg base 1 "_law_whole" (sp_l_whole K A)) : FnOk P w K mg base (L2.CX P w) 4 f fd ["_law_script"] (sp_law K A) := by
  refine F.okX sc_law (fun vs H Q E h => ?_) (fun cdv A_ outer s H vs Q E hr h => ?_)
  · obtain ⟨a, ns, rfl, _⟩ := h; rfl
  · obtain ⟨a, ns, rfl, hS, hlen, q⟩ := h
    refine ⟨_, (pss_cons (ps_set (i := 1) sc_law.nd rfl (.inl rfl) (pe_cx c_l_kind_by hr (by decide) rfl (takes_of rfl rfl rfl rfl) (pa_cons (pe_cx c_l_cell_at hr (by decide) rfl (takes_of rfl rfl rfl rfl) (pa_cons (pv 0) (pa_cons pe_int pa_nil))) pa_nil))) (pss_cons (ps_set (i := 2) sc_law.nd rfl (.inl rfl) (pe_cx c_l_bounds hr (by decide) rfl (takes_of rfl rfl rfl rfl) (pa_cons (pv 1) pa_nil))) (pss_cons (ps_set (i := 3) sc_law.nd rfl (.inl rfl) (pe_cx c_l_truths hr (by decide) rfl (takes_of rfl rfl rfl rfl) (pa_cons (pe_cx c_l_cell_at hr (by decide) rfl (takes_of rfl rfl rfl rfl) (pa_cons (pv 0) (pa_cons pe_int pa_nil))) (pa_cons (pe_op op_mod (pe_cx c_l_cell_at hr (by decide) rfl (takes_of rfl rfl rfl rfl) (pa_cons (pv 0) (pa_cons pe_int pa_nil))) pe_int) pa_nil)))) (pss_cons (ps_if (pt_cmpR op_isN1 (pv 2) pe_non (nomark _)) (pss_cons (ps_set (i := 4) sc_law.nd rfl (.inl rfl) pe_str) (pss_cons (ps_try_only rfl rfl ⟨rfl, by decide, .inl T.g_NoKind⟩ (takes_of rfl rfl rfl rfl) (fun W_ pn_ xq_ tk_ xe_ => (pss_cons (ps_expr (pe_cx c_wants hr (by decide) rfl tk_ (pa_cons (pv 1) pa_nil))) pss_nil)) (fun a_ oe_ cls_ d_ pn_ hz_ hf_ => (pss_cons (ps_set (i := 4) sc_law.nd rfl (.inl rfl) pe_str) pss_nil))) (pss_cons (ps_ret (pe_and (pe_cmpR op_eq (pv 4) pe_str (nomark _)) (pe_and (pe_cmpR op_eq (pe_cx c_l_word hr (by decide) rfl (takes_of rfl rfl rfl rfl) (pa_cons (pv 1) (pa_cons (pv 3) pa_nil))) pe_str (nomark _)) (pe_one (pe_cx c_l_refused_by_any hr (by decide) rfl (takes_of rfl rfl rfl rfl) (pa_cons (pv 1) (pa_cons (pv 3) pa_nil))))))) pss_nil))) pss_nil) (pss_cons (ps_set (i := 5) sc_law.nd rfl (.inl rfl) (pe_cx c_wants hr (by decide) rfl (takes_of rfl rfl rfl rfl) (pa_cons (pv 1) pa_nil))) (pss_cons (ps_if (PW.pt (pw_or (pt_not (pt_val (pe_callB (c_isi K) (by rfl) T.n_isinstance (by decide +kernel) (pa_cons (pv 5) (pa_cons (pe_bltn (v := .ty "tuple") rfl T.n_tuple (by decide +kernel) rfl) pa_nil))))) (pw_or (pt_cmpR op_ne (pe_callB (c_len K) (by rfl) T.n_len PySem.boot_len (pa_cons (pv 5) pa_nil)) pe_int (nomark _)) (pw_or (pt_not (pt_val (pe_cx c_l_whole hr (by decide) rfl (takes_of rfl rfl rfl rfl) (pa_cons (pe_ix (ixT K) (pv 5) pe_int (fun _ _ => rfl)) pa_nil)))) (pw_or1 (pt_not (pt_val (pe_cx c_l_whole hr (by decide) rfl (takes_of rfl rfl rfl rfl) (pa_cons (pe_ix (ixT K) (pv 5) pe_int (fun _ _ => rfl)) pa_nil))))))))) (pss_cons (ps_ret pe_bl) pss_nil) pss_nil) (pss_cons (ps_if (pt_cmpR (o_neD K hr.units) (pv 5) (pv 2) (nomark _)) (pss_cons (ps_ret pe_bl) pss_nil) pss_nil) (pss_cons (ps_if (PW.pt (pw_and (pt_cmpR op_le (pe_ix (ixT K) (pv 2) pe_int (fun _ _ => rfl)) (pe_callB (c_len K) (by rfl) T.n_len PySem.boot_len (pa_cons (pv 3) pa_nil)) (nomark _)) (pw_and1 (pt_cmpR op_le (pe_callB (c_len K) (by rfl) T.n_len PySem.boot_len (pa_cons (pv 3) pa_nil)) (pe_ix (ixT K) (pv 2) pe_int (fun _ _ => rfl)) (nomark _))))) (pss_cons (ps_ret (pe_cmpR op_eq (pe_cx c_l_word hr (by decide) rfl (takes_of rfl rfl rfl rfl) (pa_cons (pv 1) (pa_cons (pv 3) pa_nil))) pe_str (nomark _))) pss_nil) pss_nil) (pss_cons (ps_ret (pe_and (pe_cmpR op_eq (pe_cx c_l_word hr (by decide) rfl (takes_of rfl rfl rfl rfl) (pa_cons (pv 1) (pa_cons (pv 3) pa_nil))) pe_str (nomark _)) (pe_one (pe_cx c_l_refused_by_any hr (by decide) rfl (takes_of rfl rfl rfl rfl) (pa_cons (pv 1) (pa_cons (pv 3) pa_nil)))))) pss_nil))))))))), ?_⟩
    try dsimp only [cxOf, Cx.blk]
    refine Go.start (σ := [some (.ref a), none, none, none, none, none]) ?_
    refine go_asgP (ep_callP (A := fun vs G' => vs = [.int (cell ns 0)] ∧ G' = H) (EvAP.of (by walk_at "ea")) fun vs G' e h => by
      obtain ⟨rfl, rfl⟩ := h
      exact sg_kind_by) fun v G1 e1 hz => ?_
    obtain ⟨z, rfl, rfl⟩ := hz
    refine go_asgP (ep_call (vs := [.str z]) (ea_cons (ev_var rfl) ea_nil) sg_bounds) fun vb G1 e1 hb => ?_
    have hS1 := ex_l e1 hS
    have n0 : 0 ≤ cell ns 1 % 13 ∧ cell ns 1 % 13 ≤ 12 := by omega
    refine go_asgL (el_callS (vs := [.int (cell ns 2), .int (cell ns 1 % 13)]) (by walk_at "ea") (sl_truths n0.1 (by omega))) fun pb hpb => ?_
    have hbl := truthsM_len (c := cell ns 2) n0.1
    generalize truthsM (cell ns 2) (cell ns 1 % 13) = bs at *
    have hbn : bs.length ≤ 40000 := by omega
    have e2 : Ex G1 (upd G1 pb (.lst (bs.map V.bl))) := Ex.new hpb
    have hB : SqL K (upd G1 pb (.lst (bs.map V.bl))) pb (bs.map V.bl) := sq_of upd_same
    generalize upd G1 pb (.lst (bs.map V.bl)) = G2 at *
    cases hw : wantsM z with
    | error e =>
      rw [hw] at hb
      have hb : vb = .non := hb
      subst hb
      have ek : e = .kind := by
        unfold wantsM at hw
        cases c : least z with
        | none => rw [c] at hw; cases hw; rfl
        | some i => rw [c] at hw; cases hw
      subst ek
      have ha := answer_kind (bs := bs) hw
      refine go_when (b := decide (V.non = V.non)) (et_test (ev_op (ev_var rfl) ev_c rv_isN)) (fun _ => ?_) (fun h => (by rw [decide_eq_true rfl] at h; cases h))
      refine go_asg ev_c ?_
      walk_at "try"
      refine go_dropF (ef_call (vs := [.str z]) (ea_cons (ev_var rfl) ea_nil) fun H1 e1 Q1 => ⟨z, rfl, out_err (x := .kind) hw fun H2 e2 => ?_⟩)
      refine wo_hit T.m_NoKind_NoKind (e1.trans e2) fun a ha2 => ?_
      refine go_asg ev_c (go_up ?_)
      have hwd : wordM z bs = "kind" := by unfold wordM; rw [ha]
      have hcw := sv_word (A := A) (z := z) hB hbn
      rw [hwd] at hcw
      refine go_ret (v := .bl (decide (("kind" : Str) = "kind") && (decide (("kind" : Str) = "kind") && true))) (ev_andV (ev_op (ev_var rfl) ev_c rv_eqS) fun _ => ev_andV (ev_op (ev_callS (ea_cons (ev_var rfl) (ea_cons (ev_var rfl) ea_nil)) hcw) ev_c rv_eqS) fun _ => ev_callS (ea_cons (ev_var rfl) (ea_cons (ev_var rfl) ea_nil)) (sv_refused_by_any hB hbn ha)) fun H1 _ => ?_
      rw [decide_eq_true rfl]
      exact q H1
    | ok b =>
      rw [hw] at hb
      obtain ⟨ab, rfl, hbp⟩ := (show PairAt K G1 vb b from hb)
      have hb2 := ex_t e2 hbp
      have j0 : atI [V.int b.1, V.int b.2] 0 = some (.int b.1) := rfl
      have j1 : atI [V.int b.1, V.int b.2] 1 = some (.int b.2) := rfl
      refine go_when (b := decide (V.ref ab = V.non)) (et_test (ev_op (ev_var rfl) ev_c rv_isN)) (fun h => (by have := of_decide_eq_true h; cases this)) (fun _ => ?_)
      refine go_asgP (ep_call (vs := [.str z]) (ea_cons (ev_var rfl) ea_nil) (spg_out (r := wantsM z) (R := RT1 K fun b : Int × Int => [.int b.1, .int b.2]) (A := A) (fun H1 e1 Q1 E1 o1 => ⟨z, rfl, o1⟩) hw)) (fun v G3 e3 hv => ?_)
      obtain ⟨H0, _, _, pf, rfl, hf⟩ := hv
      have hf : SqT K G3 pf [.int b.1, .int b.2] := hf
      have hb3 := ex_t e3 hb2
      have hB3 := ex_l e3 hB
      refine go_when (b := !true || (!decide ((([V.int b.1, V.int b.2] : List V).length : Int) = 2) || (!true || !true))) (et_or (et_not (et_B (ev_isi (ev_var rfl) ev_c (.ty _) (ty_tuple hf) (kit_ty (by decide +kernel))))) fun _ => et_or (et_test (ev_op (ev_lenT (ev_var rfl) hf) ev_c rv_neI)) fun _ => et_or (et_not (et_B (ev_callS (ea_cons (ev_op (ev_var rfl) ev_c (rv_ixT hf j0)) ea_nil) sv_whole))) fun _ => et_not (et_B (ev_callS (ea_cons (ev_op (ev_var rfl) ev_c (rv_ixT hf j1)) ea_nil) sv_whole))) (fun h => by cases h) (fun _ => ?_)
      refine go_when (b := false) (et_test (ev_op (ev_var rfl) (ev_var rfl) (rv_neD (pair_dp hf) (pair_dp hb3) rfl))) (fun h => by cases h) (fun _ => ?_)
      have hl : Ev (tCB (rLenS K) (tCons (tVar 3) tNil)) ([some (.ref a), some (.str z), some (.ref ab), some (.ref pb), none, some (.ref pf)]) G3 (.int (bs.length : Int)) := by
        have q := ev_len (K := K) (ta := tVar 3) (σ := [some (.ref a), some (.str z), some (.ref ab), some (.ref pb), none, some (.ref pf)]) (ev_var rfl) hB3
        rw [List.length_map] at q
        exact q
      have hcw := sv_word (A := A) (z := z) hB3 hbn
      refine go_when (b := decide (b.1 ≤ (bs.length : Int)) && decide ((bs.length : Int) ≤ b.2)) (et_and (et_test (ev_op (ev_op (ev_var rfl) ev_c (rv_ixT hb3 j0)) hl rv_I0)) fun _ => et_test (ev_op hl (ev_op (ev_var rfl) ev_c (rv_ixT hb3 j1)) rv_I0)) (fun h => ?_) (fun h => ?_)
      · have hc : b.1 ≤ (bs.length : Int) ∧ (bs.length : Int) ≤ b.2 := by simpa using h
        have ha : answerM z bs = .ok (answerV z bs) := by
          unfold answerM; rw [hw]; simp only [if_pos hc]
        have hwd : wordM z bs = "" := by unfold wordM; rw [ha]
        rw [hwd] at hcw
        refine go_ret (v := .bl (decide (("" : Str) = ""))) (ev_op (ev_callS (ea_cons (ev_var rfl) (ea_cons (ev_var rfl) ea_nil)) hcw) ev_c rv_eqS) fun H1 _ => ?_
        rw [decide_eq_true rfl]
        exact q H1
      · have hc : ¬ (b.1 ≤ (bs.length : Int) ∧ (bs.length : Int) ≤ b.2) := fun ⟨p, q⟩ => by simp [p, q] at h
        have ha : answerM z bs = .error .sources := by
          unfold answerM; rw [hw]; simp only [if_neg hc]
        have hwd : wordM z bs = "sources" := by unfold wordM; rw [ha]
        rw [hwd] at hcw
        refine go_ret (v := .bl (decide (("sources" : Str) = "sources") && true)) (ev_andV (ev_op (ev_callS (ea_cons (ev_var rfl) (ea_cons (ev_var rfl) ea_nil)) hcw) ev_c rv_eqS) fun _ => ev_callS (ea_cons (ev_var rfl) (ea_cons (ev_var rfl) ea_nil)) (sv_refused_by_any hB3 hbn ha)) fun H1 _ => ?_
        rw [decide_eq_true rfl]
        exact q H1

end

section
variable {P : Program} {w : World} {K : PySem.W.Frag} {mg : Str → Option Value} {base : Heap} {A : Ads}

theorem law_all {fa : Addr} (T : Txt K w mg A) (d_l_cell_at : DefAt K mg "_law_cell_at" "_law_cell_at" s_l_cell_at ["_law_script", "_law_k"]) (d_l_mixed : DefAt K mg "_law_mixed" "_law_mixed" s_l_mixed ["_law_cell", "_law_k", "_law_many"]) (d_l_kind_by : DefAt K mg "_law_kind_by" "_law_kind_by" s_l_kind_by ["_law_cell"]) (d_l_bounds : DefAt K mg "_law_bounds" "_law_bounds" s_l_bounds ["_law_kind"]) (d_l_truths : DefAt K mg "_law_truths" "_law_truths" s_l_truths ["_law_cell", "_law_many"]) (d_wants : DefAt K mg "wants" "wants" s_wants ["kind"]) (d_answer : DefAt K mg "answer" "answer" s_answer ["kind", "given"]) (d_l_word : DefAt K mg "_law_word" "_law_word" s_l_word ["_law_kind", "_law_given"]) (d_l_refused_by_any : DefAt K mg "_law_refused_by_any" "_law_refused_by_any" s_l_refused_by_any ["_law_kind", "_law_given"]) (d_l_whole : DefAt K mg "_law_whole" "_law_whole" s_l_whole ["_law_found"]) (d_law : DefAt K mg "law" "law" s_law ["_law_script"]) (hfa : mg "law" = some (.ref fa)) : ∃ fd : FuncData, (∀ (s : Shared) (u : Value), BindsTo s fd ⟨[u], []⟩ [("_law_script", u)]) ∧ ∀ base : Heap, K.In base → base.Ns mainGlobals mg → FnOk P w K mg base (L2.CX P w) 4 fa fd ["_law_script"] (sp_law K A) :=
  law_of d_law hfa fun base {_ _} F => by
    have c_l_cell_at : CalX P w K mg base 1 "_law_cell_at" (sp_l_cell_at K A) := cal_of d_l_cell_at fun F => ok_l_cell_at F T 
    have c_l_mixed : CalX P w K mg base 1 "_law_mixed" (sp_l_mixed K A) := cal_of d_l_mixed fun F => ok_l_mixed F T 
    have c_l_kind_by : CalX P w K mg base 2 "_law_kind_by" (sp_l_kind_by K A) := cal_of d_l_kind_by fun F => ok_l_kind_by F T c_l_mixed
    have c_l_bounds : CalX P w K mg base 1 "_law_bounds" (sp_l_bounds K A) := cal_of d_l_bounds fun F => ok_l_bounds F T 
    have c_l_truths : CalX P w K mg base 2 "_law_truths" (sp_l_truths K A) := cal_of d_l_truths fun F => ok_l_truths F T c_l_mixed
    have c_wants : CalX P w K mg base 1 "wants" (sp_wants K A) := cal_of d_wants fun F => ok_wants F T 
    have c_answer : CalX P w K mg base 2 "answer" (sp_answer K A) := cal_of d_answer fun F => ok_answer F T c_wants
    have c_l_word : CalX P w K mg base 3 "_law_word" (sp_l_word K A) := cal_of d_l_word fun F => ok_l_word F T c_answer
    have c_l_refused_by_any : CalX P w K mg base 3 "_law_refused_by_any" (sp_l_refused_by_any K A) := cal_of d_l_refused_by_any fun F => ok_l_refused_by_any F T c_answer
    have c_l_whole : CalX P w K mg base 1 "_law_whole" (sp_l_whole K A) := cal_of d_l_whole fun F => ok_l_whole F T 
    exact ok_law F T c_l_cell_at c_l_kind_by c_l_bounds c_l_truths c_wants c_l_word c_l_refused_by_any c_l_whole
theorem txt_of {h : Heap} {cLEAST cSignalError cNoKind cNoSources : Addr} {a0 b0 a1 b1 a2 b2 a3 b3 a4 b4 a5 b5 a6 b6 a7 b7 a8 b8 : Tok}{tokc_MANY_SOURCES : Tok} (X : K.In h) (G : h.Ns mainGlobals mg) (aL : PySem.W.nsIn K mainGlobals "LEAST" = some (some (.ref cLEAST))) (lL : K.lookup cLEAST = some { cls := .type "dict", data := .dict #[{ hash := PyData.keyHash w.params "yes", key := .str "yes" a0, val := .int 0 b0 }, { hash := PyData.keyHash w.params "no", key := .str "no" a1, val := .int 0 b1 }, { hash := PyData.keyHash w.params "keep", key := .str "keep" a2, val := .int 1 b2 }, { hash := PyData.keyHash w.params "not", key := .str "not" a3, val := .int 1 b3 }, { hash := PyData.keyHash w.params "both", key := .str "both" a4, val := .int 2 b4 }, { hash := PyData.keyHash w.params "either", key := .str "either" a5, val := .int 2 b5 }, { hash := PyData.keyHash w.params "unlike", key := .str "unlike" a6, val := .int 2 b6 }, { hash := PyData.keyHash w.params "pick", key := .str "pick" a7, val := .int 3 b7 }, { hash := PyData.keyHash w.params "most", key := .str "most" a8, val := .int 3 b8 }] 9 }) (wL : (cLEAST == sysModules) = false) (a_SignalError : PySem.W.nsIn K mainGlobals "SignalError" = some (some (.ref cSignalError))) (x_SignalError : PySem.W.excIn K cSignalError [.type "ValueError", .type "Exception", .type "BaseException", .type "object"] "ValueError.__new__" = true) (k_SignalError : PySem.W.keepIn K (.ref cSignalError) = true) (b_SignalError : PySem.W.subIn K (.ref cSignalError) (.type "BaseException") = some true) (t_SignalError : PySem.W.typeIn K (.ref cSignalError) = some (.type "type")) (a_NoKind : PySem.W.nsIn K mainGlobals "NoKind" = some (some (.ref cNoKind))) (x_NoKind : PySem.W.excIn K cNoKind [.type "ValueError", .type "Exception", .type "BaseException", .type "object"] "ValueError.__new__" = true) (k_NoKind : PySem.W.keepIn K (.ref cNoKind) = true) (b_NoKind : PySem.W.subIn K (.ref cNoKind) (.type "BaseException") = some true) (t_NoKind : PySem.W.typeIn K (.ref cNoKind) = some (.type "type")) (a_NoSources : PySem.W.nsIn K mainGlobals "NoSources" = some (some (.ref cNoSources))) (x_NoSources : PySem.W.excIn K cNoSources [.type "ValueError", .type "Exception", .type "BaseException", .type "object"] "ValueError.__new__" = true) (k_NoSources : PySem.W.keepIn K (.ref cNoSources) = true) (b_NoSources : PySem.W.subIn K (.ref cNoSources) (.type "BaseException") = some true) (t_NoSources : PySem.W.typeIn K (.ref cNoSources) = some (.type "type")) (n_range : PySem.W.nsIn K mainGlobals "range" = some none) (n_len : PySem.W.nsIn K mainGlobals "len" = some none) (n_all : PySem.W.nsIn K mainGlobals "all" = some none) (n_any : PySem.W.nsIn K mainGlobals "any" = some none) (n_tuple : PySem.W.nsIn K mainGlobals "tuple" = some none) (n_int : PySem.W.nsIn K mainGlobals "int" = some none) (n_bool : PySem.W.nsIn K mainGlobals "bool" = some none) (n_isinstance : PySem.W.nsIn K mainGlobals "isinstance" = some none) (n_ValueError : PySem.W.nsIn K mainGlobals "ValueError" = some none) (c_MANY_SOURCES : PySem.W.nsIn K mainGlobals "MANY_SOURCES" = some (some (.int 9 tokc_MANY_SOURCES))) (s_NoKind_NoKind : PySem.W.subIn K (.ref cNoKind) (.ref cNoKind) = some true) (i_NoKind : PySem.W.isClsIn K cNoKind = true) (s_NoKind_NoSources : PySem.W.subIn K (.ref cNoKind) (.ref cNoSources) = some false) (i_NoSources : PySem.W.isClsIn K cNoSources = true) (s_NoKind_SignalError : PySem.W.subIn K (.ref cNoKind) (.ref cSignalError) = some true) (i_SignalError : PySem.W.isClsIn K cSignalError = true) (e_hn : PySem.W.specialIn K (.builtin "object.__class__") "__get__" = some (some (.builtin "getset_descriptor.__get__"))) (e_ht : PySem.W.takesIn K (.builtin "object.__class__") = some true) (eg_NoKind : PySem.W.findIn K (.ref cNoKind) "__getattribute__" = some (some (.builtin "BaseException.__getattribute__"))) (ek_NoKind : PySem.W.findIn K (.ref cNoKind) "__getattr__" = some none) (ed_NoKind : PySem.W.hasDictIn K cNoKind = true) (ea_NoKind : PySem.W.findIn K (.ref cNoKind) "__class__" = some (some (.builtin "object.__class__"))) (em_NoKind : PySem.W.mroIn K cNoKind (.type "object") = some true) (w_NoKind : PySem.W.subIn K (.ref cNoKind) (.type "ValueError") = some true) (s_NoSources_NoKind : PySem.W.subIn K (.ref cNoSources) (.ref cNoKind) = some false) (s_NoSources_NoSources : PySem.W.subIn K (.ref cNoSources) (.ref cNoSources) = some true) (s_NoSources_SignalError : PySem.W.subIn K (.ref cNoSources) (.ref cSignalError) = some true) (eg_NoSources : PySem.W.findIn K (.ref cNoSources) "__getattribute__" = some (some (.builtin "BaseException.__getattribute__"))) (ek_NoSources : PySem.W.findIn K (.ref cNoSources) "__getattr__" = some none) (ed_NoSources : PySem.W.hasDictIn K cNoSources = true) (ea_NoSources : PySem.W.findIn K (.ref cNoSources) "__class__" = some (some (.builtin "object.__class__"))) (em_NoSources : PySem.W.mroIn K cNoSources (.type "object") = some true) (w_NoSources : PySem.W.subIn K (.ref cNoSources) (.type "ValueError") = some true) : Txt K w mg ⟨cLEAST, cSignalError, 0, cNoKind, cNoSources, 0, 0, 0, 0, 0, 0, 0⟩ := ⟨PySem.W.mg_none_of X G n_range, PySem.W.mg_none_of X G n_len, PySem.W.mg_none_of X G n_all, PySem.W.mg_none_of X G n_any, PySem.W.mg_none_of X G n_tuple, PySem.W.mg_none_of X G n_int, PySem.W.mg_none_of X G n_bool, PySem.W.mg_none_of X G n_isinstance, PySem.W.mg_none_of X G n_ValueError, ⟨_, PySem.W.mg_of X G c_MANY_SOURCES, tokc_MANY_SOURCES, rfl⟩, PySem.W.mg_of X G aL, least_at lL wL, PySem.W.mg_of X G a_SignalError, x_SignalError, k_SignalError, b_SignalError, t_SignalError, PySem.W.mg_of X G a_NoKind, x_NoKind, k_NoKind, b_NoKind, t_NoKind, PySem.W.mg_of X G a_NoSources, x_NoSources, k_NoSources, b_NoSources, t_NoSources, exm_of b_NoKind i_NoKind t_NoKind s_NoKind_NoKind, exm_of b_NoSources i_NoSources t_NoSources s_NoKind_NoSources, exm_of b_SignalError i_SignalError t_SignalError s_NoKind_SignalError, ⟨eg_NoKind, ek_NoKind, b_NoKind, ed_NoKind, ea_NoKind, e_hn, e_ht, em_NoKind⟩, kit_ve w_NoKind, exm_of b_NoKind i_NoKind t_NoKind s_NoSources_NoKind, exm_of b_NoSources i_NoSources t_NoSources s_NoSources_NoSources, exm_of b_SignalError i_SignalError t_SignalError s_NoSources_SignalError, ⟨eg_NoSources, ek_NoSources, b_NoSources, ed_NoSources, ea_NoSources, e_hn, e_ht, em_NoSources⟩, kit_ve w_NoSources⟩
end
end Sg
open PySem PySem.W PyProof.Rows in
set_option maxRecDepth 100000 in
set_option maxHeartbeats 0 in
theorem PySem.Challenge.cw_signalgraph_k02_kinds_and_sources_holds : PySem.Challenge.rw_signalgraph_k02_kinds_and_sources.Holds := by
  w_on; o_law; k_head; (case hw => w_witness2)
  k_fill
  refine L2.walk_of (n := 63) (k := 4) (x := "_law_script") (CX := fun w => L2.CX PySem.Challenge.rw_signalgraph_k02_kinds_and_sources.prog w) (sp := fun w vs H Q E => ∃ (a : Addr) (ns : List Int), vs = [.ref a] ∧ L2.SqL _ H a (ns.map L2.V.int) ∧ ns.length ≤ 63 ∧ ∀ H', Q (.bl true) H') rfl (by decide) rfl ⟨rfl, by decide, by decide⟩ (fun w h Y => PySem.W.kIn_of Y) ?F (fun _ _ a ns hl _ hS => ⟨a, ns, rfl, hS, hl, fun _ => rfl⟩) ?Z
  case Z =>
    intro w H s e s' z
    obtain ⟨_, _, _, _, _, _, _, _, _, _, _, _, z⟩ := z
    exact z.elim
  case F =>
    intro w mg fa h KX G hmg
    refine' Sg.law_all (Sg.txt_of (w := w) KX G ?aL ?lL ?wL ?a_SignalError ?x_SignalError ?k_SignalError ?b_SignalError ?t_SignalError ?a_NoKind ?x_NoKind ?k_NoKind ?b_NoKind ?t_NoKind ?a_NoSources ?x_NoSources ?k_NoSources ?b_NoSources ?t_NoSources ?n_range ?n_len ?n_all ?n_any ?n_tuple ?n_int ?n_bool ?n_isinstance ?n_ValueError ?c_MANY_SOURCES ?s_NoKind_NoKind ?i_NoKind ?s_NoKind_NoSources ?i_NoSources ?s_NoKind_SignalError ?i_SignalError ?e_hn ?e_ht ?eg_NoKind ?ek_NoKind ?ed_NoKind ?ea_NoKind ?em_NoKind ?w_NoKind ?s_NoSources_NoKind ?s_NoSources_NoSources ?s_NoSources_SignalError ?eg_NoSources ?ek_NoSources ?ed_NoSources ?ea_NoSources ?em_NoSources ?w_NoSources) (Sg.def_at KX G ?a0 ?l0 ?c0 ?k0 fun _ _ _ _ _ _ us hl => match us, hl with | [_, _], _ => rfl) (Sg.def_at KX G ?a1 ?l1 ?c1 ?k1 fun _ _ _ _ _ _ us hl => match us, hl with | [_, _, _], _ => rfl) (Sg.def_at KX G ?a2 ?l2 ?c2 ?k2 fun _ _ _ _ _ _ us hl => match us, hl with | [_], _ => rfl) (Sg.def_at KX G ?a3 ?l3 ?c3 ?k3 fun _ _ _ _ _ _ us hl => match us, hl with | [_], _ => rfl) (Sg.def_at KX G ?a4 ?l4 ?c4 ?k4 fun _ _ _ _ _ _ us hl => match us, hl with | [_, _], _ => rfl) (Sg.def_at KX G ?a5 ?l5 ?c5 ?k5 fun _ _ _ _ _ _ us hl => match us, hl with | [_], _ => rfl) (Sg.def_at KX G ?a6 ?l6 ?c6 ?k6 fun _ _ _ _ _ _ us hl => match us, hl with | [_, _], _ => rfl) (Sg.def_at KX G ?a7 ?l7 ?c7 ?k7 fun _ _ _ _ _ _ us hl => match us, hl with | [_, _], _ => rfl) (Sg.def_at KX G ?a8 ?l8 ?c8 ?k8 fun _ _ _ _ _ _ us hl => match us, hl with | [_, _], _ => rfl) (Sg.def_at KX G ?a9 ?l9 ?c9 ?k9 fun _ _ _ _ _ _ us hl => match us, hl with | [_], _ => rfl) (Sg.def_at KX G ?a10 ?l10 ?c10 ?k10 fun _ _ _ _ _ _ us hl => match us, hl with | [_], _ => rfl) hmg
    (case aL => k_is)
    (case lL => k_is)
    (case wL => rfl)
    (case a_SignalError => k_is)
    (case x_SignalError => k_exc)
    (case k_SignalError => k_is)
    (case b_SignalError => k_is)
    (case t_SignalError => k_is)
    (case a_NoKind => k_is)
    (case x_NoKind => k_exc)
    (case k_NoKind => k_is)
    (case b_NoKind => k_is)
    (case t_NoKind => k_is)
    (case a_NoSources => k_is)
    (case x_NoSources => k_exc)
    (case k_NoSources => k_is)
    (case b_NoSources => k_is)
    (case t_NoSources => k_is)
    (case n_range => k_is)
    (case n_len => k_is)
    (case n_all => k_is)
    (case n_any => k_is)
    (case n_tuple => k_is)
    (case n_int => k_is)
    (case n_bool => k_is)
    (case n_isinstance => k_is)
    (case n_ValueError => k_is)
    (case c_MANY_SOURCES => k_is)
    (case s_NoKind_NoKind => first | rfl | k_is)
    (case i_NoKind => k_is)
    (case s_NoKind_NoSources => k_is)
    (case i_NoSources => k_is)
    (case s_NoKind_SignalError => k_is)
    (case i_SignalError => k_is)
    (case e_hn => k_is)
    (case e_ht => k_is)
    (case eg_NoKind => k_is)
    (case ek_NoKind => k_is)
    (case ed_NoKind => k_is)
    (case ea_NoKind => k_is)
    (case em_NoKind => k_is)
    (case w_NoKind => k_is)
    (case s_NoSources_NoKind => k_is)
    (case s_NoSources_NoSources => first | rfl | k_is)
    (case s_NoSources_SignalError => k_is)
    (case eg_NoSources => k_is)
    (case ek_NoSources => k_is)
    (case ed_NoSources => k_is)
    (case ea_NoSources => k_is)
    (case em_NoSources => k_is)
    (case w_NoSources => k_is)
    (case a0 => k_is)
    (case l0 => k_is)
    (case c0 => k_is)
    (case k0 => k_is)
    (case a1 => k_is)
    (case l1 => k_is)
    (case c1 => k_is)
    (case k1 => k_is)
    (case a2 => k_is)
    (case l2 => k_is)
    (case c2 => k_is)
    (case k2 => k_is)
    (case a3 => k_is)
    (case l3 => k_is)
    (case c3 => k_is)
    (case k3 => k_is)
    (case a4 => k_is)
    (case l4 => k_is)
    (case c4 => k_is)
    (case k4 => k_is)
    (case a5 => k_is)
    (case l5 => k_is)
    (case c5 => k_is)
    (case k5 => k_is)
    (case a6 => k_is)
    (case l6 => k_is)
    (case c6 => k_is)
    (case k6 => k_is)
    (case a7 => k_is)
    (case l7 => k_is)
    (case c7 => k_is)
    (case k7 => k_is)
    (case a8 => k_is)
    (case l8 => k_is)
    (case c8 => k_is)
    (case k8 => k_is)
    (case a9 => k_is)
    (case l9 => k_is)
    (case c9 => k_is)
    (case k9 => k_is)
    (case a10 => k_is)
    (case l10 => k_is)
    (case c10 => k_is)
    (case k10 => k_is)
