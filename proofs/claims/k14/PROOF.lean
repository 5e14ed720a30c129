import PyProof.Rows.All
import Wide.All
import OpenK.AllK
import Wide.FinOn
import HandS.ForExc
import HandS.ForMost
import HandS.Evl
import HandS.IsInst
import HandS.TryOnly
import HandS.ExcIs
import HandS.TupAny
import HandS.TupMul
import HandS.SortInts
import HandS.Codes
import HandS.More
import HandS.Steps
import HandS.SortKw
import HandS.TryMany
import HandS.HotCalls
import HandS.Rev
import HandS.Zip
import HandS.Deep
import KE.DataMinMax
import PySem.Challenge.RW_signalgraph_k14_written_and_read
set_option Elab.async false
set_option linter.all false
set_option maxRecDepth 100000
set_option maxHeartbeats 300000
/-! The base of all laws: calls of a def by its promise, steps over a known heap (Go). -/
namespace Sg
open PySem L2 Evl

/-! ### a def that may be called by its name -/
structure CalX (P : Program) (w : World) (K : PySem.W.Frag) (mg : Str → Option Value) (base : Heap) (k : Nat) (x : Str) (sp : Sp) : Prop where
  ex : ∃ (f : Addr) (fd : FuncData) (ps : List Str), FnOk P w K mg base (L2.CX P w) k f fd ps sp ∧ mg x = some (.ref f) ∧ PySem.W.keepIn K (.ref f) = true ∧ Binds K fd ps []
theorem pe_cx {X : Cx} {W : WX} {k j : Nat} {x : Str} {sp : Sp} {p pos : Pos} {e : Expr} {es : List Expr} {t : TA} (c : CalX X.prog X.w X.K X.mg X.base k x sp) (hr : Room j X.A) (hk : k ≤ j) (hg : Gl X x) (tk : Takes X W) (ht : PA X (e :: es) t)
    (hdb : (x == ("__debug__" : Str)) = false := by decide) (he : starEach (e :: es) X.env = (false, eval e X.env) :: starEach es X.env := by rfl) (hpl : (backTo pos (starEach es X.env)).any (·.1) = false := by rfl) :
    PE X (.Call (.Name x p) (e :: es) [] pos) (tCallS sp (WE W) t) := by
  obtain ⟨f, fd, ps, F, hm, hkp, hb⟩ := c.ex
  exact pe_callS F (hr.mono hk) hg hm hkp hb (fun σ => passAt tk σ) ht hdb he hpl

/-! ### the heap: more of extension -/
theorem upd_get {H : Hp} {a b : Addr} {o : HO} : upd H a o b = if b = a then some o else H b := rfl
theorem none_upd {H : Hp} {p q : Addr} {o : HO} : upd H p o q = none ↔ q ≠ p ∧ H q = none := by
  rw [upd_get]
  by_cases h : q = p
  · rw [if_pos h]; exact ⟨fun z => (by cases z), fun z => absurd h z.1⟩
  · rw [if_neg h]; exact ⟨fun z => ⟨h, z⟩, fun z => z.2⟩
theorem _root_.Evl.Ex.put {G H : Hp} {p : Addr} {o : HO} (e : Ex G H) : Ex (upd G p o) (upd H p o) := fun a u h => by
  rw [upd_get] at h ⊢
  by_cases q : a = p
  · rw [if_pos q] at h ⊢; exact h
  · rw [if_neg q] at h ⊢; exact e a u h
theorem _root_.Evl.Ex.know {G H : Hp} {p : Addr} {o : HO} (e : Ex G H) (h : H p = some o) (hp : G p = none) : Ex (upd G p o) H := fun a u q => by
  rw [upd_get] at q
  by_cases z : a = p
  · rw [if_pos z] at q; rw [z, h]; exact q
  · rw [if_neg z] at q; exact e a u q
theorem _root_.Evl.Ex.none {G H : Hp} {p : Addr} (e : Ex G H) (h : H p = none) : G p = none := fresh_back e h
theorem ex_of_eq {G H : Hp} (h : G = H) : Ex G H := h ▸ Ex.refl _

/-! ### from a known heap -/
/-- whatever else stands, from what is known (G) the statement brings about what is wanted -/
def Go (t : TS) (D : Ends) (σ : L2.St) (G : Hp) : Prop := ∀ H, Ex G H → t D σ H
/-- an end said of what is known -/
def Kn (P : L2.St → Hp → Prop) : L2.St → Hp → Prop := fun σ H => ∃ G, Ex G H ∧ P σ G
section
variable {K : PySem.W.Frag} {σ : L2.St} {G G' H : Hp} {ta tb te tx : TE} {t u : TT} {x y z v : V} {D : Ends} {tu tw tz ts : TS} {g : TG}
theorem Go.start (h : Go ts D σ G) : ts D σ G := h G (Ex.refl G)
theorem Go.weak (e : Ex G G') (h : Go ts D σ G) : Go ts D σ G' := fun H e2 => h H (e.trans e2)
theorem go_next (h : ∀ H, Ex G H → D.nx σ H) : Go tNext D σ G := h
theorem go_kn {P : L2.St → Hp → Prop} {rt : VK} {bk ct : L2.St → Hp → Prop} (h : P σ G) : Go tNext ⟨Kn P, rt, bk, ct⟩ σ G := fun _ e => ⟨G, e, h⟩
theorem go_up {rt : VK} {bk ct : L2.St → Hp → Prop} {D' : Ends} (h : Go tz D' σ G) : Go tNext ⟨tz D', rt, bk, ct⟩ σ G := h
theorem go_seq (h : Go ts { D with nx := tz D } σ G) : Go (tSeq ts tz) D σ G := h
/-- where a statement's own end is Kn P, what follows goes on from P -/
theorem go_asg {i : Nat} (h : Ev te σ G v) (k : Go tz D (σ.set i (some v)) G) : Go (tSeq (tAsg te (gName i)) tz) D σ G := fun H e =>
  h H e _ fun H1 e1 => k H1 (e.trans e1)
theorem go_asgL {i : Nat} {xs : List V} (h : EvL te σ G xs) (k : ∀ p, G p = none → Go tz D (σ.set i (some (.ref p))) (upd G p (.lst xs))) : Go (tSeq (tAsg te (gName i)) tz) D σ G := fun H e =>
  h H e _ fun p H1 hp e1 h1 => k p (e.none hp) H1 ((e.trans e1).know h1 (e.none hp))
theorem go_asgU {i : Nat} {xs : List V} (h : EvU te σ G xs) (k : ∀ p, G p = none → Go tz D (σ.set i (some (.ref p))) (upd G p (.tup xs))) : Go (tSeq (tAsg te (gName i)) tz) D σ G := fun H e =>
  h H e _ fun p H1 hp e1 h1 => k p (e.none hp) H1 ((e.trans e1).know h1 (e.none hp))
theorem go_drop (h : Ev te σ G v) (k : Go tz D σ G) : Go (tSeq (tDrop te) tz) D σ G := fun H e => h H e _ fun H1 e1 => k H1 (e.trans e1)
theorem go_ret (h : Ev te σ G v) (k : ∀ H, Ex G H → D.rt v H) : Go (tSeq (tRet te) tz) D σ G := fun H e => h H e _ fun H1 e1 => k H1 (e.trans e1)
theorem go_retL {xs : List V} (h : EvL te σ G xs) (k : ∀ p H, G p = none → Ex G H → H p = some (.lst xs) → D.rt (.ref p) H) : Go (tSeq (tRet te) tz) D σ G := fun H e =>
  h H e _ fun p H1 hp e1 h1 => k p H1 (e.none hp) (e.trans e1) h1
theorem go_retU {xs : List V} (h : EvU te σ G xs) (k : ∀ p H, G p = none → Ex G H → H p = some (.tup xs) → D.rt (.ref p) H) : Go (tSeq (tRet te) tz) D σ G := fun H e =>
  h H e _ fun p H1 hp e1 h1 => k p H1 (e.none hp) (e.trans e1) h1
theorem go_if {b : Bool} (h : EvT t σ G b) (h1 : b = true → Go tu { D with nx := tz D } σ G) (h2 : b = false → Go tw { D with nx := tz D } σ G) : Go (tSeq (tIfS t tu tw) tz) D σ G := fun H e =>
  h H e _ fun H1 e1 => by
    cases b with
    | true =>
      show tu { D with nx := tz D } σ H1
      exact h1 rfl H1 (e.trans e1)
    | false =>
      show tw { D with nx := tz D } σ H1
      exact h2 rfl H1 (e.trans e1)
/-- an if without else -/
theorem go_when {b : Bool} (h : EvT t σ G b) (h1 : b = true → Go tu { D with nx := tz D } σ G) (h2 : b = false → Go tz D σ G) : Go (tSeq (tIfS t tu tNext) tz) D σ G := go_if h h1 fun hb => go_up (h2 hb)
theorem go_app {l : Addr} {xs : List V} (ha : Ev ta σ G (.ref l)) (hl : G l = some (.lst xs)) (h : Ev te σ G v) (hz : xs.length < 100000) (k : Go tz D σ (upd G l (.lst (xs ++ [v])))) :
    Go (tSeq (tDrop (tBM K "list" rAppend ta (tCons te tNil))) tz) D σ G := fun H e => ha H e _ fun H1 e1 =>
  ⟨Or.inl ⟨rfl, xs, sq_of (e1 l _ (e l _ hl))⟩, h H1 (e.trans e1) _ fun H2 e2 => ⟨l, xs, v, rfl, rfl, e2 l _ (e1 l _ (e l _ hl)), sz_lt hz, k _ (Ex.put ((e.trans e1).trans e2))⟩⟩
/-- append of an object that is made on the way (or handed back by a call): P says what is known of it -/
theorem go_setL {l : Addr} {xs : List V} {j : Nat} (h : Ev te σ G v) (ho : Ev ta σ G (.ref l)) (hl : G l = some (.lst xs)) (hi : Ev tb σ G (.int (j : Int))) (hj : j < xs.length) (k : Go tz D σ (upd G l (.lst (xs.set j v)))) :
    Go (tSeq (tAsg te (gSub ta tb rSetL)) tz) D σ G := fun H e => h H e _ fun H1 e1 => ho H1 (e.trans e1) _ fun H2 e2 => hi H2 ((e.trans e1).trans e2) _ fun H3 e3 =>
  ⟨l, xs, (j : Int), j, rfl, rfl, (((e.trans e1).trans e2).trans e3) l _ hl, ixN_nat hj, k _ (Ex.put (((e.trans e1).trans e2).trans e3))⟩

/-! ### what evaluates to something of which P holds -/
def EvP (te : TE) (σ : L2.St) (G : Hp) (P : V → Hp → Prop) : Prop := ∀ H, Ex G H → ∀ Q : VK, (∀ v G' H', Ex G G' → Ex G' H' → Ex H H' → P v G' → Q v H') → te σ H Q
theorem EvP.of (h : Ev te σ G v) : EvP te σ G fun x G' => x = v ∧ G' = G := fun H e Q q => h H e Q fun H1 e1 => q v G H1 (Ex.refl G) (e.trans e1) e1 ⟨rfl, rfl⟩
theorem go_asgP {i : Nat} {P : V → Hp → Prop} (h : EvP te σ G P) (k : ∀ v G', Ex G G' → P v G' → Go tz D (σ.set i (some v)) G') : Go (tSeq (tAsg te (gName i)) tz) D σ G := fun H e =>
  h H e _ fun v G' H1 e1 e2 _ p => k v G' e1 p H1 e2
theorem go_retP {P : V → Hp → Prop} (h : EvP te σ G P) (k : ∀ v G' H, Ex G G' → Ex G' H → P v G' → D.rt v H) : Go (tSeq (tRet te) tz) D σ G := fun H e =>
  h H e _ fun v G' H1 e1 e2 _ p => k v G' H1 e1 e2 p
theorem go_dropP {P : V → Hp → Prop} (h : EvP te σ G P) (k : ∀ v G', Ex G G' → P v G' → Go tz D σ G') : Go (tSeq (tDrop te) tz) D σ G := fun H e =>
  h H e _ fun v G' H1 e1 e2 _ p => k v G' e1 p H1 e2
theorem go_appP {P : V → Hp → Prop} {l : Addr} {xs : List V} (ha : Ev ta σ G (.ref l)) (hl : G l = some (.lst xs)) (h : EvP te σ G P) (hz : xs.length < 100000)
    (k : ∀ v G', Ex G G' → P v G' → Go tz D σ (upd G' l (.lst (xs ++ [v])))) :
    Go (tSeq (tDrop (tBM K "list" rAppend ta (tCons te tNil))) tz) D σ G := fun H e => ha H e _ fun H1 e1 =>
  ⟨Or.inl ⟨rfl, xs, sq_of (e1 l _ (e l _ hl))⟩, h H1 (e.trans e1) _ fun v G' H2 g1 g2 e2 p => ⟨l, xs, v, rfl, rfl, e2 l _ (e1 l _ (e l _ hl)), sz_lt hz, k v G' g1 p _ (Ex.put g2)⟩⟩
theorem go_setLP {P : V → Hp → Prop} {l : Addr} {xs : List V} {j : Nat} (h : EvP te σ G P) (ho : ∀ G', Ex G G' → Ev ta σ G' (.ref l)) (hl : G l = some (.lst xs)) (hi : ∀ G', Ex G G' → Ev tb σ G' (.int (j : Int))) (hj : j < xs.length)
    (k : ∀ v G', Ex G G' → P v G' → Go tz D σ (upd G' l (.lst (xs.set j v)))) :
    Go (tSeq (tAsg te (gSub ta tb rSetL)) tz) D σ G := fun H e => h H e _ fun v G' H1 g1 g2 e1 p => ho G' g1 H1 g2 _ fun H2 e2 => hi G' g1 H2 (g2.trans e2) _ fun H3 e3 =>
  ⟨l, xs, (j : Int), j, rfl, rfl, e3 l _ (e2 l _ (g2 l _ (g1 l _ hl))), ixN_nat hj, k v G' g1 p _ (Ex.put ((g2.trans e2).trans e3))⟩
/-- arguments of which P holds -/
def EvAP (ta : TA) (σ : L2.St) (G : Hp) (P : List V → Hp → Prop) : Prop := ∀ H, Ex G H → ∀ Q : List V → Hp → Prop, (∀ vs G' H', Ex G G' → Ex G' H' → Ex H H' → P vs G' → Q vs H') → ta σ H Q
theorem EvAP.of {ta : TA} {vs : List V} (h : EvA ta σ G vs) : EvAP ta σ G fun xs G' => xs = vs ∧ G' = G := fun H e Q q => h H e Q fun H1 e1 => q vs G H1 (Ex.refl G) (e.trans e1) e1 ⟨rfl, rfl⟩
theorem eap_nil : EvAP tNil σ G fun xs G' => xs = [] ∧ G' = G := EvAP.of ea_nil
theorem eap_cons {tr : TA} {P : V → Hp → Prop} {R : V → List V → Hp → Prop} (h : EvP te σ G P) (hr : ∀ v G', Ex G G' → P v G' → EvAP tr σ G' (R v)) :
    EvAP (tCons te tr) σ G fun xs G' => ∃ v vs G1, xs = v :: vs ∧ Ex G G1 ∧ Ex G1 G' ∧ P v G1 ∧ R v vs G' := fun H e Q q =>
  h H e _ fun v G1 H1 g1 g2 e1 p => hr v G1 g1 p H1 g2 _ fun vs G2 H2 k1 k2 e2 r => q (v :: vs) G2 H2 (g1.trans k1) k2 (e1.trans e2) ⟨v, vs, G1, rfl, g1, k1, p, r⟩
theorem eap_ev {tr : TA} {R : List V → Hp → Prop} (h : Ev te σ G v) (hr : EvAP tr σ G R) : EvAP (tCons te tr) σ G fun xs G' => ∃ vs, xs = v :: vs ∧ R vs G' := fun H e Q q =>
  h H e _ fun H1 e1 => hr H1 (e.trans e1) _ fun vs G2 H2 k1 k2 e2 r => q (v :: vs) G2 H2 k1 k2 (e1.trans e2) ⟨vs, rfl, r⟩
/-- the last argument of which something is said; those behind it evaluate -/
theorem eap_p {tr : TA} {P : V → Hp → Prop} {ws : List V} (h : EvP te σ G P) (hr : ∀ v G', Ex G G' → P v G' → EvA tr σ G' ws) : EvAP (tCons te tr) σ G fun xs G' => ∃ v, xs = v :: ws ∧ P v G' := fun H e Q q =>
  h H e _ fun v G1 H1 g1 g2 e1 p => hr v G1 g1 p H1 g2 _ fun H2 e2 => q (v :: ws) G1 H2 g1 (g2.trans e2) (e1.trans e2) ⟨v, rfl, p⟩
theorem ep_L {xs : List V} (h : EvL te σ G xs) : EvP te σ G fun v G' => ∃ p, v = .ref p ∧ G p = none ∧ G' = upd G p (.lst xs) := fun H e Q q =>
  h H e Q fun p H1 hp e1 h1 => q _ (upd G p (.lst xs)) H1 (Ex.new (e.none hp)) ((e.trans e1).know h1 (e.none hp)) e1 ⟨p, rfl, e.none hp, rfl⟩
theorem ep_U {xs : List V} (h : EvU te σ G xs) : EvP te σ G fun v G' => ∃ p, v = .ref p ∧ G p = none ∧ G' = upd G p (.tup xs) := fun H e Q q =>
  h H e Q fun p H1 hp e1 h1 => q _ (upd G p (.tup xs)) H1 (Ex.new (e.none hp)) ((e.trans e1).know h1 (e.none hp)) e1 ⟨p, rfl, e.none hp, rfl⟩
/-- a tuple of what is made on the way -/
theorem ep_tup {ta : TA} {P : List V → Hp → Prop} {R : V → Hp → Prop} (h : EvAP ta σ G P) (hl : ∀ vs G', P vs G' → vs.length ≤ 100000) (hR : ∀ vs G' p, Ex G G' → P vs G' → G' p = none → R (.ref p) (upd G' p (.tup vs))) : EvP (tTup ta) σ G R := fun H e Q q =>
  h H e _ fun vs G' H1 g1 g2 e1 p => ⟨sz_of (hl vs G' p), fun a ha => q _ (upd G' a (.tup vs)) _ (g1.trans (Ex.new (g2.none ha))) (Ex.put g2) (e1.trans (Ex.new ha)) (hR vs G' a g1 p (g2.none ha))⟩
theorem ep_lst {ta : TA} {P : List V → Hp → Prop} {R : V → Hp → Prop} (h : EvAP ta σ G P) (hl : ∀ vs G', P vs G' → vs.length ≤ 100000) (hR : ∀ vs G' p, Ex G G' → P vs G' → G' p = none → R (.ref p) (upd G' p (.lst vs))) : EvP (tLst ta) σ G R := fun H e Q q =>
  h H e _ fun vs G' H1 g1 g2 e1 p => ⟨sz_of (hl vs G' p), fun a ha => q _ (upd G' a (.lst vs)) _ (g1.trans (Ex.new (g2.none ha))) (Ex.put g2) (e1.trans (Ex.new ha)) (hR vs G' a g1 p (g2.none ha))⟩

/-! ### calls of defs: what a promise gives -/
/-- the def hands back v -/
def SpG (sp : Sp) (vs : List V) (G : Hp) (P : V → Hp → Prop) : Prop := ∀ H, Ex G H → ∀ Q : VK, ∀ E : XK, (∀ v G' H', Ex G G' → Ex G' H' → Ex H H' → P v G' → Q v H') → sp vs H Q E
theorem ep_call {sp : Sp} {E : L2.St → XK} {ta : TA} {vs : List V} {P : V → Hp → Prop} (h : EvA ta σ G vs) (hs : SpG sp vs G P) : EvP (tCallS sp E ta) σ G P := fun H e Q q =>
  h H e _ fun H1 e1 => hs H1 (e.trans e1) Q (E σ) fun v G' H' g1 g2 e2 p => q v G' H' g1 g2 (e1.trans e2) p
theorem ep_callP {sp : Sp} {E : L2.St → XK} {ta : TA} {A : List V → Hp → Prop} {P : V → Hp → Prop} (h : EvAP ta σ G A) (hs : ∀ vs G', Ex G G' → A vs G' → SpG sp vs G' P) : EvP (tCallS sp E ta) σ G P := fun H e Q q =>
  h H e _ fun vs G1 H1 g1 g2 e1 p => hs vs G1 g1 p H1 g2 Q (E σ) fun v G' H' k1 k2 e2 p2 => q v G' H' (g1.trans k1) k2 (e1.trans e2) p2
theorem ev_callS {sp : Sp} {E : L2.St → XK} {ta : TA} {vs : List V} (h : EvA ta σ G vs) (hs : SpV sp vs G z) : Ev (tCallS sp E ta) σ G z := fun H e Q q =>
  h H e _ fun H1 e1 => hs H1 (e.trans e1) Q (fun H2 e2 => q H2 (e1.trans e2)) (E σ)
theorem el_callS {sp : Sp} {E : L2.St → XK} {ta : TA} {vs xs : List V} (h : EvA ta σ G vs) (hs : SpL sp vs G xs) : EvL (tCallS sp E ta) σ G xs := fun H e Q q =>
  h H e _ fun H1 e1 => hs H1 (e.trans e1) Q (fun p H2 hp e2 h2 => q p H2 (fresh_back e1 hp) (e1.trans e2) h2) (E σ)
theorem EvP.imp {P R : V → Hp → Prop} (h : EvP te σ G P) (i : ∀ v G', Ex G G' → P v G' → R v G') : EvP te σ G R := fun H e Q q => h H e Q fun v G' H' g1 g2 e1 p => q v G' H' g1 g2 e1 (i v G' g1 p)
theorem SpG.imp {sp : Sp} {vs : List V} {P R : V → Hp → Prop} (h : SpG sp vs G P) (i : ∀ v G', Ex G G' → P v G' → R v G') : SpG sp vs G R := fun H e Q E q => h H e Q E fun v G' H' g1 g2 e1 p => q v G' H' g1 g2 e1 (i v G' g1 p)

/-! ### more that evaluates -/
theorem ev_chain {r r' : R2} {a b : Bool} (ha : Ev ta σ G x) (hb : Ev tb σ G y) (hr : RV r x y G (.bl a)) (hc : a = true → Ev te σ G z) (hr' : a = true → RV r' y z G (.bl b)) (hb0 : a = false → b = false) :
    Ev (tChain r r' ta tb te) σ G (.bl b) := fun H e Q q => ha H e _ fun H1 e1 => hb H1 (e.trans e1) _ fun H2 e2 => hr H2 ((e.trans e1).trans e2) _ fun H3 e3 => ⟨a, rfl, by
  cases a with
  | true =>
    show te σ H3 _
    exact hc rfl H3 (((e.trans e1).trans e2).trans e3) _ fun H4 e4 => hr' rfl H4 ((((e.trans e1).trans e2).trans e3).trans e4) Q fun H5 e5 => q H5 ((((e1.trans e2).trans e3).trans e4).trans e5)
  | false =>
    show Q (.bl false) H3
    rw [← hb0 rfl]
    exact q H3 ((e1.trans e2).trans e3)⟩
theorem rv_eqI {i j : Int} : RV rEq (.int i) (.int j) G (.bl (decide (i = j))) := fun H1 _ _ q => ⟨rfl, by
  have e : decide (V.int i = V.int j) = decide (i = j) := by simp
  rw [e]; exact q H1 (Ex.refl H1)⟩
theorem rv_eqS {i j : Str} : RV rEq (.str i) (.str j) G (.bl (decide (i = j))) := fun H1 _ _ q => ⟨rfl, by
  have e : decide (V.str i = V.str j) = decide (i = j) := by simp
  rw [e]; exact q H1 (Ex.refl H1)⟩
theorem rv_eqB {i j : Bool} : RV rEq (.bl i) (.bl j) G (.bl (decide (i = j))) := fun H1 _ _ q => ⟨rfl, by
  have e : decide (V.bl i = V.bl j) = decide (i = j) := by simp
  rw [e]; exact q H1 (Ex.refl H1)⟩
theorem rv_neI {i j : Int} : RV rNe (.int i) (.int j) G (.bl (!decide (i = j))) := fun H1 _ _ q => ⟨rfl, by
  have e : decide (V.int i = V.int j) = decide (i = j) := by simp
  rw [e]; exact q H1 (Ex.refl H1)⟩
theorem rv_neS {i j : Str} : RV rNe (.str i) (.str j) G (.bl (!decide (i = j))) := fun H1 _ _ q => ⟨rfl, by
  have e : decide (V.str i = V.str j) = decide (i = j) := by simp
  rw [e]; exact q H1 (Ex.refl H1)⟩
theorem rv_neB {i j : Bool} : RV rNe (.bl i) (.bl j) G (.bl (!decide (i = j))) := fun H1 _ _ q => ⟨rfl, by
  have e : decide (V.bl i = V.bl j) = decide (i = j) := by simp
  rw [e]; exact q H1 (Ex.refl H1)⟩
theorem ev_lenT {p : Addr} {xs : List V} (ha : Ev ta σ G (.ref p)) (h : SqT K G p xs) : Ev (tCB (rLenS K) (tCons ta tNil)) σ G (.int (xs.length : Int)) := fun H1 e Q q =>
  ha H1 e _ fun H2 e2 => ⟨p, xs, rfl, Or.inr (ex_t (e.trans e2) h), q H2 e2⟩
end
/-! ### where the top's things stand -/
structure Ads where
  LEAST : Addr
  SignalError : Addr
  NoSize : Addr
  NoKind : Addr
  NoSources : Addr
  NoLine : Addr
  NoDelay : Addr
  NoValues : Addr
  Ringed : Addr
  NoDeed : Addr
  NoText : Addr
  Board : Addr
/-- what the text's table LEAST says -/
def least (z : Str) : Option Int :=
  if z = "yes" then some 0 else if z = "no" then some 0 else if z = "keep" then some 1 else if z = "not" then some 1 else if z = "both" then some 2 else if z = "either" then some 2 else if z = "unlike" then some 2
  else if z = "pick" then some 3 else if z = "most" then some 3 else none
structure LeastAt (K : PySem.W.Frag) (w : World) (d : Addr) : Prop where
  at_ : ∃ es n, L2.KDict K w d es n
  no : ∀ z, least z = none → PySem.W.nsIn K d z = some none
  yes : ∀ z i, least z = some i → ∃ t, PySem.W.nsIn K d z = some (some (.int i t))
section
variable {X : Cx} {d : Addr}
def rNotLeast (d : Addr) : R2 := fun x y H Q => ∃ z, x = .str z ∧ y = .ref d ∧ Q (.bl (!(least z).isSome)) H
def rItLeast (d : Addr) : R2 := fun x y H Q => ∃ z i, x = .ref d ∧ y = .str z ∧ least z = some i ∧ Q (.int i) H
theorem op_notIn_least (D : LeastAt X.K X.w d) : OpR X (compareOp .NotIn) (rNotLeast d) := by
  obtain ⟨es, n, k⟩ := D.at_
  intro pins s σ H x y v u Q I rx ry h
  obtain ⟨z, rfl, rfl, q⟩ := h
  cases e : least z with
  | none =>
    refine op_notIn_kd k pins s σ H _ _ v u Q I rx ry ⟨z, none, rfl, rfl, D.no z e, ?_⟩
    rw [e] at q; exact q
  | some i =>
    obtain ⟨t, ht⟩ := D.yes z i e
    refine op_notIn_kd k pins s σ H _ _ v u Q I rx ry ⟨z, _, rfl, rfl, ht, ?_⟩
    rw [e] at q; exact q
theorem ix_least (D : LeastAt X.K X.w d) : IxR X (rItLeast d) := by
  obtain ⟨es, n, k⟩ := D.at_
  intro value slice pins s σ H x y v u Q I rx ry h hs
  obtain ⟨z, i, rfl, rfl, e, q⟩ := h
  obtain ⟨t, ht⟩ := D.yes z i e
  refine ix_kdict value slice pins s σ H _ _ v u Q I rx ry ⟨d, z, .int i, rfl, rfl, ?_, q⟩ hs
  exact ⟨es, n, _, k.at_, k.lit, ht, ⟨t, rfl⟩⟩
theorem pe_gv {x : Str} {v : V} {pos : Pos} (hg : Gl X x) (h : ∃ u, X.mg x = some u ∧ RelV v u) (hd : (x == ("__debug__" : Str)) = false := by decide) : PE X (.Name x pos) (tC v) := by
  obtain ⟨u, hm, r⟩ := h
  exact pe_glob hg hm r hd
end

/-! ### what a def's promise says: it hands back what a plain function tells, or refuses as that tells -/
inductive Err | size | kind | sources | line | delay | values | ringed | deed | text
  deriving DecidableEq
def Ads.of (A : Ads) : Err → Addr
  | .size => A.NoSize | .kind => A.NoKind | .sources => A.NoSources | .line => A.NoLine | .delay => A.NoDelay | .values => A.NoValues | .ringed => A.Ringed | .deed => A.NoDeed | .text => A.NoText
def Out {α : Type} (A : Ads) (H : Hp) (Q : VK) (E : XK) (R : Hp → V → Hp → α → Prop) : Except Err α → Prop
  | .ok a => ∀ v H', Ex H H' → R H v H' a → Q v H'
  | .error e => ∀ H', Ex H H' → E (.ref (A.of e)) none H'
/-- a value of its own | a new list -/
def RV1 {α : Type} (f : α → V) : Hp → V → Hp → α → Prop := fun _ v _ a => v = f a
def RL1 {α : Type} (f : α → List V) : Hp → V → Hp → α → Prop := fun H v H' a => ∃ p, v = .ref p ∧ H p = none ∧ H' p = some (.lst (f a))
def RT1 {α : Type} (K : PySem.W.Frag) (f : α → List V) : Hp → V → Hp → α → Prop := fun _ v H' a => ∃ p, v = .ref p ∧ SqT K H' p (f a)
section
variable {α : Type} {A : Ads} {K : PySem.W.Frag} {σ : L2.St} {G H : Hp} {Q : VK} {E : XK} {R : Hp → V → Hp → α → Prop} {tr tz : TS} {D : Ends} {r : Except Err α} {sp : Sp} {vs : List V}
theorem go_raise (h : ∀ D σ H, Ex G H → tr D σ H) : Go (tSeq tr tz) D σ G := fun H e => h _ _ H e
theorem Out.ok {v : V} {H' : Hp} (o : Out A H Q E R r) (a : α) (h : r = .ok a) (e : Ex H H') (q : R H v H' a) : Q v H' := by
  subst h; exact o v H' e q
theorem Out.err {H' : Hp} (o : Out A H Q E R r) (x : Err) (h : r = .error x) (e : Ex H H') : E (.ref (A.of x)) none H' := by
  subst h; exact o H' e
/-- the promise used where it hands back -/
theorem spg_out {a : α} (hsp : ∀ H, Ex G H → ∀ Q E, Out A H Q E R r → sp vs H Q E) (h : r = .ok a) : SpG sp vs G fun v G' => ∃ H0, Ex G H0 ∧ Ex H0 G' ∧ R H0 v G' a := fun H e Q E q =>
  hsp H e Q E (by subst h; exact fun v H' e' p => q v H' H' (e.trans e') (Ex.refl _) e' ⟨H, e, e', p⟩)
theorem spv_out {f : α → V} {a : α} (hsp : ∀ H, Ex G H → ∀ Q E, Out A H Q E (RV1 f) r → sp vs H Q E) (h : r = .ok a) : SpV sp vs G (f a) := fun H e Q q E =>
  hsp H e Q E (by subst h; exact fun v H' e' p => by rw [show v = f a from p]; exact q H' e')
theorem spl_out {f : α → List V} {a : α} (hsp : ∀ H, Ex G H → ∀ Q E, Out A H Q E (RL1 f) r → sp vs H Q E) (h : r = .ok a) : SpL sp vs G (f a) := fun H e Q q E =>
  hsp H e Q E (by subst h; exact fun v H' e' p => by obtain ⟨p, rfl, hp, hl⟩ := p; exact q p H' hp e' hl)
theorem rv_notLeast {z : Str} {d : Addr} : RV (rNotLeast d) (.str z) (.ref d) G (.bl (!(least z).isSome)) := fun H1 _ _ q => ⟨z, rfl, rfl, q H1 (Ex.refl H1)⟩
theorem rv_itLeast {z : Str} {d : Addr} {i : Int} (h : least z = some i) : RV (rItLeast d) (.ref d) (.str z) G (.int i) := fun H1 _ _ q => ⟨z, i, rfl, rfl, h, q H1 (Ex.refl H1)⟩
end

/-! ### items, comprehensions, by lists of data -/
theorem at_map {α : Type} (f : α → V) (xs : List α) (d : α) {k : Int} (h0 : 0 ≤ k) (h1 : k < xs.length) : atI (xs.map f) k = some (f (xs.getD k.toNat d)) := by
  obtain ⟨j, rfl⟩ : ∃ j : Nat, k = (j : Int) := ⟨k.toNat, by omega⟩
  have hj : j < xs.length := by omega
  refine atI_nat ?_
  rw [List.getElem?_map, List.getElem?_eq_getElem hj, Int.toNat_natCast]
  simp [List.getD_eq_getElem?_getD, List.getElem?_eq_getElem hj]
theorem at_list {xs : List V} {j : Nat} {v : V} (h : xs[j]? = some v) : atI xs (j : Int) = some v := atI_nat h
theorem given_all {α : Type} (as : List α) (d : α) (p : α → Bool) (g : α → V) : ∀ n, n ≤ as.length → given n (fun i => p (as.getD i d)) (fun i => g (as.getD i d)) = ((as.take n).filter p).map g
  | 0, _ => rfl
  | n + 1, h => by
    have ih := given_all as d p g n (by omega)
    have hn : n < as.length := by omega
    have e1 : as.getD n d = as[n] := by simp [List.getD_eq_getElem?_getD, List.getElem?_eq_getElem hn]
    have e2 : as.take (n + 1) = as.take n ++ [as[n]] := by rw [List.take_add_one, List.getElem?_eq_getElem hn]; rfl
    rw [e2, List.filter_append, List.map_append]
    by_cases hp : p as[n] = true
    · rw [given_yes (by show p (as.getD n d) = true; rw [e1]; exact hp), ih]
      rw [List.filter_cons, if_pos hp, List.filter_nil, List.map_cons, List.map_nil]
      show _ ++ [g (as.getD n d)] = _
      rw [e1]
    · have hp' : p as[n] = false := by cases h : p as[n] <;> simp_all
      rw [given_no (by show p (as.getD n d) = false; rw [e1]; exact hp'), ih]
      simp [hp']
section
variable {K : PySem.W.Frag} {σ : L2.St} {G G' H : Hp} {ta tb te tx tl : TE} {t u : TT} {x y z v : V} {D : Ends} {tu tw tz ts : TS} {g : TG} {j : Nat} {vs : List Nat}
theorem ev_all {p : Addr} {bs : List Bool} (ha : Ev ta σ G (.ref p)) (h : SqL K G p (bs.map V.bl)) : Ev (tCB (rAll K) (tCons ta tNil)) σ G (.bl (bs.all id)) := fun H1 e Q q =>
  ha H1 e _ fun H2 e2 => ⟨p, bs, rfl, ex_l (e.trans e2) h, q H2 e2⟩
theorem ev_any {p : Addr} {bs : List Bool} (ha : Ev ta σ G (.ref p)) (h : SqL K G p (bs.map V.bl)) : Ev (tCB (rAny K) (tCons ta tNil)) σ G (.bl (bs.any id)) := fun H1 e Q q =>
  ha H1 e _ fun H2 e2 => ⟨p, bs, rfl, ex_l (e.trans e2) h, q H2 e2⟩
theorem ev_allN {bs : List Bool} (ha : EvL ta σ G (bs.map V.bl)) : Ev (tCB (rAll K) (tCons ta tNil)) σ G (.bl (bs.all id)) := fun H1 e Q q =>
  ha H1 e _ fun p H2 _ e2 h2 => ⟨p, bs, rfl, sq_of h2, q H2 e2⟩
theorem ev_anyN {bs : List Bool} (ha : EvL ta σ G (bs.map V.bl)) : Ev (tCB (rAny K) (tCons ta tNil)) σ G (.bl (bs.any id)) := fun H1 e Q q =>
  ha H1 e _ fun p H2 _ e2 h2 => ⟨p, bs, rfl, sq_of h2, q H2 e2⟩
/-- [e for x in xs if t] -/
theorem el_lcF {α : Type} (as : List α) (inj : α → V) (p : α → Bool) (g : α → V) {a : Addr} (h : Ev tl σ G (.ref a)) (hx : SqL K G a (as.map inj)) (hz : as.length ≤ 40000) (hw : ∀ x, wipe ((wipe σ vs).set j (some x)) vs = wipe σ vs)
    (ht : ∀ x, x ∈ as → EvT t ((wipe σ vs).set j (some (inj x))) G (p x)) (he : ∀ x, x ∈ as → p x = true → Ev te ((wipe σ vs).set j (some (inj x))) G (g x)) :
    EvL (tLc (iList K tl) (gName j) t te vs) σ G ((as.filter p).map g) := by
  cases as with
  | nil =>
    have q := el_lcL (K := K) (σ := σ) (H := G) (t := t) (te := te) (tl := tl) (j := j) (vs := vs) (a := a) (xs := []) (fun _ => true) (fun _ => V.non) h hx (Nat.zero_le _) hw (fun i x H1 _ hi => by simp at hi) (fun i x H1 _ hi => by simp at hi)
    exact q
  | cons d r =>
    have key : given (((d :: r).map inj)).length (fun i => p ((d :: r).getD i d)) (fun i => g ((d :: r).getD i d)) = ((d :: r).filter p).map g := by
      rw [List.length_map, given_all (d :: r) d p g _ (Nat.le_refl _), List.take_length]
    rw [← key]
    have item : ∀ (i : Nat) (x : V), ((d :: r).map inj)[i]? = some x → x = inj ((d :: r).getD i d) ∧ (d :: r).getD i d ∈ d :: r := fun i x hi => by
      rw [List.getElem?_map] at hi
      cases e : (d :: r)[i]? with
      | none => rw [e] at hi; cases hi
      | some y =>
        rw [e] at hi
        have e2 : (d :: r).getD i d = y := by rw [List.getD_eq_getElem?_getD, e]; rfl
        exact ⟨by rw [e2]; exact (Option.some.inj hi).symm, by rw [e2]; exact List.mem_of_getElem? e⟩
    refine el_lcL (K := K) _ _ h hx (by rw [List.length_map]; exact hz) hw (fun i x H1 e1 hi => ?_) (fun i x H1 e1 hi hf => ?_)
    · obtain ⟨rfl, hm⟩ := item i x hi
      exact (ht _ hm).mono e1
    · obtain ⟨rfl, hm⟩ := item i x hi
      exact (he _ hm hf).mono e1
theorem et_yes : EvT tYes σ G true := fun H1 _ _ q => q H1 (Ex.refl H1)
/-- [e for x in xs] -/
theorem el_lcA {α : Type} (as : List α) (inj : α → V) (g : α → V) {a : Addr} (h : Ev tl σ G (.ref a)) (hx : SqL K G a (as.map inj)) (hz : as.length ≤ 40000) (hw : ∀ x, wipe ((wipe σ vs).set j (some x)) vs = wipe σ vs)
    (he : ∀ x, x ∈ as → Ev te ((wipe σ vs).set j (some (inj x))) G (g x)) : EvL (tLc (iList K tl) (gName j) tYes te vs) σ G (as.map g) := by
  have q := el_lcF (K := K) (te := te) as inj (fun _ => true) g h hx hz hw (fun _ _ => et_yes) (fun x hx _ => he x hx)
  have e : as.filter (fun _ => true) = as := List.filter_eq_self.mpr fun _ _ => rfl
  rw [e] at q
  exact q
/-- [e for k in range(n) if t] -/
theorem el_lcRF {ta : TA} {n : Int} (p : Int → Bool) (g : Int → V) (h : EvA ta σ G [.int n]) (hn : 0 ≤ n ∧ n ≤ 40000) (hw : ∀ x, wipe ((wipe σ vs).set j (some x)) vs = wipe σ vs)
    (ht : ∀ k : Int, 0 ≤ k → k < n → EvT t ((wipe σ vs).set j (some (.int k))) G (p k)) (he : ∀ k : Int, 0 ≤ k → k < n → p k = true → Ev te ((wipe σ vs).set j (some (.int k))) G (g k)) :
    EvL (tLc (iRng1 ta) (gName j) t te vs) σ G (((List.range n.toNat).filter fun i : Nat => p (i : Int)).map fun i : Nat => g (i : Int)) := by
  have q := el_lcR1 (σ := σ) (H := G) (t := t) (te := te) (j := j) (vs := vs) (n := n) (fun i : Nat => p (i : Int)) (fun i : Nat => g (i : Int)) h hn hw (fun i H1 e1 hi => (ht i (by omega) hi).mono e1) (fun i H1 e1 hi hf => (he i (by omega) hi hf).mono e1)
  exact q
theorem el_lcR {ta : TA} {n : Int} (g : Int → V) (h : EvA ta σ G [.int n]) (hn : 0 ≤ n ∧ n ≤ 40000) (hw : ∀ x, wipe ((wipe σ vs).set j (some x)) vs = wipe σ vs)
    (he : ∀ k : Int, 0 ≤ k → k < n → Ev te ((wipe σ vs).set j (some (.int k))) G (g k)) :
    EvL (tLc (iRng1 ta) (gName j) tYes te vs) σ G ((List.range n.toNat).map fun i : Nat => g (i : Int)) := by
  have q := el_lcRF (te := te) (fun _ => true) g h hn hw (fun _ _ _ => et_yes) (fun k h0 h1 _ => he k h0 h1)
  have e : (List.range n.toNat).filter (fun _ => true) = List.range n.toNat := List.filter_eq_self.mpr fun _ _ => rfl
  rw [e] at q
  exact q
end

/-! ### what raises; chains -/
def EvF (te : TE) (σ : L2.St) (G : Hp) : Prop := ∀ H, Ex G H → ∀ Q : VK, te σ H Q
section
variable {α : Type} {A : Ads} {K : PySem.W.Frag} {σ : L2.St} {G G' H : Hp} {ta tb te tx tl : TE} {t u : TT} {x y z v : V} {D : Ends} {tu tw tz ts : TS} {g : TG} {Q : VK} {E : XK} {R : Hp → V → Hp → α → Prop} {r : Except Err α} {sp : Sp}
theorem out_err {x : Err} (h : r = .error x) (k : ∀ H', Ex H H' → E (.ref (A.of x)) none H') : Out A H Q E R r := by subst h; exact k
theorem out_ok {a : α} (h : r = .ok a) (k : ∀ v H', Ex H H' → R H v H' a → Q v H') : Out A H Q E R r := by subst h; exact k
theorem ef_call {E : L2.St → XK} {tA : TA} {vs : List V} (h : EvA tA σ G vs) (hs : ∀ H, Ex G H → ∀ Q, sp vs H Q (E σ)) : EvF (tCallS sp E tA) σ G := fun H e Q => h H e _ fun H1 e1 => hs H1 (e.trans e1) Q
theorem go_asgF (h : EvF te σ G) : Go (tSeq (tAsg te g) tz) D σ G := fun H e => h H e _
theorem go_dropF (h : EvF te σ G) : Go (tSeq (tDrop te) tz) D σ G := fun H e => h H e _
theorem go_retF (h : EvF te σ G) : Go (tSeq (tRet te) tz) D σ G := fun H e => h H e _
theorem ef_op1 {r : R2} (h : EvF ta σ G) : EvF (tOp r ta tb) σ G := fun H e _ => h H e _
theorem ev_chI {p q : Int → Int → Bool} {i j k : Int} (ha : Ev ta σ G (.int i)) (hb : Ev tb σ G (.int j)) (hc : Ev te σ G (.int k)) : Ev (tChain (rI0 fun i j => .bl (p i j)) (rI0 fun i j => .bl (q i j)) ta tb te) σ G (.bl (p i j && q j k)) :=
  ev_chain (a := p i j) ha hb rv_I0 (fun _ => hc) (fun h => by rw [h, Bool.true_and]; exact rv_I0) (fun h => by rw [h, Bool.false_and])
end

/-! ### the library's rules, their readings by names -/
section
variable {X : Cx}
def rLenZ : List V → Hp → VK → Prop := fun xs H Q => ∃ z : Str, xs = [.str z] ∧ z.length ≤ sizeLine ∧ Q (.int z.length) H
def rTupS (K : PySem.W.Frag) : List V → Hp → VK → Prop := fun xs H Q => ∃ p ys, xs = [.ref p] ∧ ((SqL K H p ys ∧ ∀ l, H l = none → Q (.ref l) (upd H l (.tup ys))) ∨ (SqT K H p ys ∧ Q (.ref p) H))
def rMin2 : List V → Hp → VK → Prop := fun xs H Q => ∃ i j, xs = [.int i, .int j] ∧ Q (.int (if j < i then j else i)) H
def rInt1 : List V → Hp → VK → Prop := fun xs H Q => (∃ i, xs = [.int i] ∧ Q (.int i) H) ∨ ∃ k, xs = [.bl k] ∧ Q (.int (if k then 1 else 0)) H
def rStrI : List V → Hp → VK → Prop := fun xs H Q => ∃ i, xs = [.int i] ∧ i.natAbs.log2 < 1920 ∧ Q (.str (toString i)) H
def rIntZ : List V → Hp → VK → Prop := fun xs H Q => ∃ a n, xs = [.str a] ∧ PySem.intText? a = some n ∧ a.length ≤ 640 ∧ Q (.int n) H
def rAddZ : R2 := fun x y H Q => ∃ i j, x = .str i ∧ y = .str j ∧ i.length + j.length ≤ sizeLine ∧ Q (.str (i ++ j)) H
theorem call_lenS : CallR X (.builtin "len") (rLenS X.K) := call_len_seq
theorem call_lenZ : CallR X (.builtin "len") rLenZ := call_len_str
theorem call_listS : CallR X (.type "list") (rListS X.K) := call_list_of
theorem call_tupS : CallR X (.type "tuple") (rTupS X.K) := call_tuple_of
theorem call_mx2 (hc : X.calm = true) : CallR X (.builtin "max") rMax2 := call_max2 hc
theorem call_mn2 (hc : X.calm = true) : CallR X (.builtin "min") rMin2 := call_min2 hc
theorem call_intB : CallR X (.type "int") rInt1 := call_int1
theorem call_strI : CallR X (.type "str") rStrI := call_str_int
theorem call_intZ : CallR X (.type "int") rIntZ := call_int_str
theorem op_addZ : OpR X (binaryOp .Add) rAddZ := op_add_str
def tTrue (K : PySem.W.Frag) (ta : TE) : TT := fun σ H Q => ta σ H fun x H' => ∃ k, TruV K x H' k ∧ Q k H'
theorem pt_tru {a : Expr} {ta : TE} (ha : PE X a ta) (he : ∀ whole, isTrue a X.env whole = (do let v ← whole; standAt a.pos; holding [v] (truthy v)) := by intro _; rfl) : PT X a (tTrue X.K ta) := pt_truth ha he
end

/-! ### == of data -/
mutual
theorem eqv_self : ∀ d : PyData, d.canLay0 = true → PyData.eqv d d = true
  | .none, _ => by simp [PyData.eqv]
  | .bool b, _ => by simp [PyData.eqv]
  | .int i, _ => by simp [PyData.eqv]
  | .str x, _ => by simp [PyData.eqv]
  | .list ds, h => by
    rw [PyData.eqv]
    exact eqvAll_self ds (by rw [PyData.canLay0] at h; exact h)
  | .tuple ds, h => by
    rw [PyData.eqv]
    exact eqvAll_self ds (by rw [PyData.canLay0] at h; exact h)
  | .dict _, h => by rw [PyData.canLay0] at h; cases h
theorem eqvAll_self : ∀ ds : List PyData, PyData.canLayAll0 ds = true → PyData.eqvAll ds ds = true
  | [], _ => by simp [PyData.eqvAll]
  | d :: ds, h => by
    rw [PyData.canLayAll0, Bool.and_eq_true] at h
    rw [PyData.eqvAll, eqv_self d h.1, eqvAll_self ds h.2]; rfl
end
mutual
theorem dp_mono {K : PySem.W.Frag} {H H' : Hp} (e : Ex H H') : ∀ (d : PyData) (v : V), Dp K H v d → Dp K H' v d
  | .none, _, h => by cases h; exact .non
  | .bool b, _, h => by cases h; exact .bl b
  | .int i, _, h => by cases h; exact .int i
  | .str x, _, h => by cases h; exact .str x
  | .list ds, _, h => by
    cases h with
    | lst hs ha => exact .lst (ex_l e hs) (dp_monoAll e ds _ ha)
  | .tuple ds, _, h => by
    cases h with
    | tup hs ha => exact .tup (ex_t e hs) (dp_monoAll e ds _ ha)
  | .dict _, _, h => by cases h
theorem dp_monoAll {K : PySem.W.Frag} {H H' : Hp} (e : Ex H H') : ∀ (ds : List PyData) (vs : List V), DpAll K H vs ds → DpAll K H' vs ds
  | [], _, h => by cases h; exact .nil
  | d :: ds, _, h => by
    cases h with
    | cons a b => exact .cons (dp_mono e d _ a) (dp_monoAll e ds _ b)
end
theorem dpAll_map {K : PySem.W.Frag} {H : Hp} {α : Type} (f : α → V) (g : α → PyData) : ∀ as : List α, (∀ a ∈ as, Dp K H (f a) (g a)) → DpAll K H (as.map f) (as.map g)
  | [], _ => .nil
  | a :: as, h => .cons (h a List.mem_cons_self) (dpAll_map f g as fun b hb => h b (List.mem_cons_of_mem _ hb))
theorem dp_bools {K : PySem.W.Frag} {H : Hp} {a : Addr} {bs : List Bool} (h : SqL K H a (bs.map V.bl)) : Dp K H (.ref a) (.list (bs.map .bool)) := .lst h (dpAll_map _ _ bs fun b _ => .bl b)
theorem dp_ints {K : PySem.W.Frag} {H : Hp} {a : Addr} {ns : List Int} (h : SqL K H a (ns.map V.int)) : Dp K H (.ref a) (.list (ns.map .int)) := .lst h (dpAll_map _ _ ns fun b _ => .int b)
theorem canLayAll_map {α : Type} (f : α → PyData) : ∀ as : List α, (∀ a ∈ as, (f a).canLay0 = true) → PyData.canLayAll0 (as.map f) = true
  | [], _ => by simp [PyData.canLayAll0]
  | a :: as, h => by
    rw [List.map_cons, PyData.canLayAll0, h a List.mem_cons_self, canLayAll_map f as fun b hb => h b (List.mem_cons_of_mem _ hb)]; rfl
theorem depthAll_map {α : Type} (f : α → PyData) (n : Nat) : ∀ as : List α, (∀ a ∈ as, (f a).depth ≤ n) → PyData.depthAll (as.map f) ≤ n
  | [], _ => by simp [PyData.depthAll]
  | a :: as, h => by
    rw [List.map_cons, PyData.depthAll]
    exact Nat.max_le.mpr ⟨h a List.mem_cons_self, depthAll_map f n as fun b hb => h b (List.mem_cons_of_mem _ hb)⟩
theorem shaped_bools (bs : List Bool) : SeqAt.shaped (.list (bs.map .bool)) = true := by
  unfold SeqAt.shaped
  rw [PyData.canLay0, PyData.depth, canLayAll_map _ bs fun _ _ => by simp [PyData.canLay0]]
  have := depthAll_map PyData.bool 0 bs fun _ _ => by simp [PyData.depth]
  simp; omega
theorem shaped_ints (ns : List Int) : SeqAt.shaped (.list (ns.map .int)) = true := by
  unfold SeqAt.shaped
  rw [PyData.canLay0, PyData.depth, canLayAll_map _ ns fun _ _ => by simp [PyData.canLay0]]
  have := depthAll_map PyData.int 0 ns fun _ _ => by simp [PyData.depth]
  simp; omega
section
variable {K : PySem.W.Frag} {σ : L2.St} {G : Hp} {x y : V} {d : PyData}
theorem rv_eqD (hx : Dp K G x d) (hy : Dp K G y d) (hs : SeqAt.shaped d = true) : RV (rEqD K) x y G (.bl true) := fun H e Q q =>
  ⟨d, d, dp_mono e d x hx, dp_mono e d y hy, hs, hs, by rw [eqv_self d (SeqAt.canLay_of_shaped hs)]; exact q H (Ex.refl H)⟩
theorem rv_neD (hx : Dp K G x d) (hy : Dp K G y d) (hs : SeqAt.shaped d = true) : RV (rNeD K) x y G (.bl false) := fun H e Q q =>
  ⟨d, d, dp_mono e d x hx, dp_mono e d y hy, hs, hs, by rw [eqv_self d (SeqAt.canLay_of_shaped hs)]; exact q H (Ex.refl H)⟩
end
/-! ### isinstance -/
section
variable {K : PySem.W.Frag} {σ : L2.St} {G : Hp} {ta tb : TE} {x c : V} {t u : Value} {b : Bool}
theorem TyOf.mono {H H' : Hp} (e : Ex H H') (h : TyOf K H x t) : TyOf K H' x t := by
  cases h with
  | non => exact .non
  | bl b => exact .bl b
  | int i => exact .int i
  | str s => exact .str s
  | flt f => exact .flt f
  | lst h => exact .lst (e _ _ h)
  | frz h => exact .frz (e _ _ h)
  | tup h => exact .tup (e _ _ h)
  | dK h => exact .dK (e _ _ h)
  | dT h => exact .dT (e _ _ h)
  | ins h => exact .ins (e _ _ h) (by assumption) (by assumption) (by assumption) (by assumption) (by assumption)
end

section
variable {K : PySem.W.Frag} {σ : L2.St} {G : Hp} {ta tb te : TE} {x c v : V} {t u : Value} {b : Bool}
theorem tyX_mono {H H' : Hp} (e : Ex H H') (h : TyX K H x t) : TyX K H' x t := by
  cases h with
  | base h => exact .base (TyOf.mono e h)
  | byt b => exact .byt b
  | set h => exact .set (e _ _ h)
  | kList h c => exact .kList h c
  | kTuple h c => exact .kTuple h c
  | kDict h c => exact .kDict h c
  | fTuple h => exact .fTuple (e _ _ h)
  | fDict h => exact .fDict (e _ _ h)
theorem ev_isi (ha : Ev ta σ G x) (hc : Ev tb σ G c) (hk : ClsV c u) (hx : TyX K G x t) (e : PySem.W.kitOne K t u = some b) : Ev (tCB (rIsi K) (tCons ta (tCons tb tNil))) σ G (.bl b) := fun H e1 Q q =>
  ha H e1 _ fun H1 e2 => hc H1 (e1.trans e2) _ fun H2 e3 => ⟨x, c, t, u, b, rfl, hk, tyX_mono ((e1.trans e2).trans e3) hx, e, q H2 (e2.trans e3)⟩
/-- [v] * k -/
theorem el_rep {k : Int} (ha : EvL ta σ G [v]) (hb : Ev tb σ G (.int k)) (h0 : -(2 ^ 63) ≤ k) (h1 : k ≤ 100000) : EvL (tOp rRep ta tb) σ G (List.replicate k.toNat v) := fun H e Q q =>
  ha H e _ fun p H1 hp e1 h => hb H1 (e.trans e1) _ fun H2 e2 => ⟨p, k, [v], rfl, rfl, e2 p _ h, h0, by omega, sz_of (by simp; omega), fun l hl => by
    have e3 : (List.replicate k.toNat [v]).flatten = List.replicate k.toNat v := by
      induction k.toNat with
      | zero => rfl
      | succ n ih => rw [List.replicate_succ, List.flatten_cons, ih]; rfl
    rw [e3]
    exact q l _ (fresh_back (e1.trans e2) hl) ((e1.trans e2).trans (Ex.new hl)) upd_same⟩
theorem el_litl {tA : TA} {vs : List V} (h : EvA tA σ G vs) (hl : vs.length ≤ 100000) : EvL (tLst tA) σ G vs := el_lst h hl
end

/-! ### a word between two statements -/
section
variable {K : PySem.W.Frag} {σ : L2.St} {G : Hp} {ta tb te : TE} {t : TT} {v : V} {D : Ends} {tu tw tz ts : TS}
theorem go_cut (M : L2.St → Hp → Prop) (h : Go ts { D with nx := Kn M } σ G) (k : ∀ σ' G', M σ' G' → Go tz D σ' G') : Go (tCut ts tz) D σ G := fun H e =>
  ⟨Kn M, h H e, fun σ' H' ⟨G', e', m⟩ => k σ' G' m H' e'⟩
theorem go_ifs {b : Bool} (h : EvT t σ G b) (h1 : b = true → Go tu D σ G) (h2 : b = false → Go tw D σ G) : Go (tIfS t tu tw) D σ G := fun H e =>
  h H e _ fun H1 e1 => by
    cases b with
    | true =>
      show tu D σ H1
      exact h1 rfl H1 (e.trans e1)
    | false =>
      show tw D σ H1
      exact h2 rfl H1 (e.trans e1)
theorem ev_ixLit {xs : List V} {i : Int} (ha : EvL ta σ G xs) (hb : Ev tb σ G (.int i)) (h : atI xs i = some v) : Ev (tOp (rIxL K) ta tb) σ G v :=
  ev_opL1 ha (fun _ e => hb.mono e) fun p H1 hp e => rv_ixL (sq_of hp) h
end

/-! ### what the top has left -/
structure DefAt (K : PySem.W.Frag) (mg : Str → Option Value) (x qual : Str) (st : Stmt) (ps : List Str) : Prop where
  ex : ∃ (f : Addr) (fd : FuncData), Fun K x qual st f fd ∧ mg x = some (.ref f) ∧ Binds K fd ps [] ∧ ∀ (s : Shared) (us : List Value), us.length = ps.length → BindsTo s fd ⟨us, []⟩ (ps.zip us)
theorem def_at {K : PySem.W.Frag} {mg : Str → Option Value} {h : Heap} {x qual : Str} {st : Stmt} {ps : List Str} {f : Addr} {oc : Value} {od an : Option Addr} {osl : Array (Option Value)} {kV doc pm cdv ct : Value} (X : K.In h) (G : h.Ns mainGlobals mg)
    (a : PySem.W.nsIn K mainGlobals x = some (some (.ref f))) (l : K.lookup f = some ⟨oc, od, .func (PySem.W.fnOf x qual (defArgs st) (defBody st) (defScope st) .none kV doc pm an cdv ct), osl⟩) (c : PySem.W.codeIn K cdv qual = true) (k : PySem.W.keepIn K (.ref f) = true)
    (b : ∀ (kV doc pm : Value) (an : Option Addr) (cdv ct : Value) (us : List Value), us.length = ps.length → bindArgs (PySem.W.fnOf x qual (defArgs st) (defBody st) (defScope st) .none kV doc pm an cdv ct) ⟨us, []⟩ = pure (ps.zip us)) : DefAt K mg x qual st ps :=
  ⟨f, _, fun_mk l c k, PySem.W.mg_of X G a, (fun_mk l c k).binds b, fun _ us hl => .of_eq (b _ _ _ _ _ _ us hl)⟩
theorem cal_of {P : Program} {w : World} {K : PySem.W.Frag} {mg : Str → Option Value} {base : Heap} {k : Nat} {x qual : Str} {st : Stmt} {ps : List Str} {sp : Sp} (d : DefAt K mg x qual st ps)
    (h : ∀ {f : Addr} {fd : FuncData}, Fun K x qual st f fd → FnOk P w K mg base (L2.CX P w) k f fd ps sp) : CalX P w K mg base k x sp := by
  obtain ⟨f, fd, F, hm, hb, _⟩ := d.ex
  exact ⟨f, fd, ps, h F, hm, F.kp, hb⟩
theorem law_of {P : Program} {w : World} {K : PySem.W.Frag} {mg : Str → Option Value} {k : Nat} {x p : Str} {st : Stmt} {sp : Sp} {fa : Addr} (d : DefAt K mg x x st [p]) (hfa : mg x = some (.ref fa))
    (h : ∀ (base : Heap) {f : Addr} {fd : FuncData}, Fun K x x st f fd → FnOk P w K mg base (L2.CX P w) k f fd [p] sp) :
    ∃ fd : FuncData, (∀ (s : Shared) (u : Value), BindsTo s fd ⟨[u], []⟩ [(p, u)]) ∧ ∀ base : Heap, K.In base → base.Ns mainGlobals mg → FnOk P w K mg base (L2.CX P w) k fa fd [p] sp := by
  obtain ⟨f, fd, F, hm, _, hb⟩ := d.ex
  have e := hm.symm.trans hfa
  cases e
  exact ⟨fd, fun s u => hb s [u] rfl, fun base _ _ => h base F⟩
def leastEs (P : Params) (a0 b0 a1 b1 a2 b2 a3 b3 a4 b4 a5 b5 a6 b6 a7 b7 a8 b8 : Tok) : List DictEntry := [{ hash := PyData.keyHash P "yes", key := .str "yes" a0, val := .int 0 b0 }, { hash := PyData.keyHash P "no", key := .str "no" a1, val := .int 0 b1 }, { hash := PyData.keyHash P "keep", key := .str "keep" a2, val := .int 1 b2 }, { hash := PyData.keyHash P "not", key := .str "not" a3, val := .int 1 b3 }, { hash := PyData.keyHash P "both", key := .str "both" a4, val := .int 2 b4 }, { hash := PyData.keyHash P "either", key := .str "either" a5, val := .int 2 b5 }, { hash := PyData.keyHash P "unlike", key := .str "unlike" a6, val := .int 2 b6 }, { hash := PyData.keyHash P "pick", key := .str "pick" a7, val := .int 3 b7 }, { hash := PyData.keyHash P "most", key := .str "most" a8, val := .int 3 b8 }]
theorem isStr_dec (a z : Str) (t : Tok) : (Value.str a t).isStr z = decide (z = a) := by
  show (a == z) = decide (z = a)
  rw [Bool.eq_iff_iff]
  simp only [decide_eq_true_eq, beq_iff_eq]
  exact ⟨fun h => h.symm, fun h => h.symm⟩
theorem least_at {K : PySem.W.Frag} {w : World} {d : Addr} {a0 b0 a1 b1 a2 b2 a3 b3 a4 b4 a5 b5 a6 b6 a7 b7 a8 b8 : Tok}
    (hl : K.lookup d = some { cls := .type "dict", data := .dict #[{ hash := PyData.keyHash w.params "yes", key := .str "yes" a0, val := .int 0 b0 }, { hash := PyData.keyHash w.params "no", key := .str "no" a1, val := .int 0 b1 }, { hash := PyData.keyHash w.params "keep", key := .str "keep" a2, val := .int 1 b2 }, { hash := PyData.keyHash w.params "not", key := .str "not" a3, val := .int 1 b3 }, { hash := PyData.keyHash w.params "both", key := .str "both" a4, val := .int 2 b4 }, { hash := PyData.keyHash w.params "either", key := .str "either" a5, val := .int 2 b5 }, { hash := PyData.keyHash w.params "unlike", key := .str "unlike" a6, val := .int 2 b6 }, { hash := PyData.keyHash w.params "pick", key := .str "pick" a7, val := .int 3 b7 }, { hash := PyData.keyHash w.params "most", key := .str "most" a8, val := .int 3 b8 }] 9 }) (low : (d == sysModules) = false) : LeastAt K w d := by
  have hn : ∀ z, PySem.W.nsIn K d z = (match List.find? (fun x : DictEntry => x.key.isStr z) (leastEs w.params a0 b0 a1 b1 a2 b2 a3 b3 a4 b4 a5 b5 a6 b6 a7 b7 a8 b8) with
    | some e => some (some e.val)
    | none => some none) := fun z => by
    unfold PySem.W.nsIn
    rw [show List.lookup d K = some _ from hl]
    show (match List.find? (fun x : DictEntry => x.key.isStr z) (leastEs w.params a0 b0 a1 b1 a2 b2 a3 b3 a4 b4 a5 b5 a6 b6 a7 b7 a8 b8) with | some e => some (some e.val) | none => if (leastEs w.params a0 b0 a1 b1 a2 b2 a3 b3 a4 b4 a5 b5 a6 b6 a7 b7 a8 b8).any (fun x => x.refKey) = true then none else some none) = _
    have hr : (leastEs w.params a0 b0 a1 b1 a2 b2 a3 b3 a4 b4 a5 b5 a6 b6 a7 b7 a8 b8).any (fun x => x.refKey) = false := rfl
    rw [hr]
    rfl
  refine ⟨⟨_, 9, hl, ?_, low⟩, fun z hz => ?_, fun z i hz => ?_⟩
  · exact ⟨⟨_, _, rfl, rfl⟩, ⟨_, _, rfl, rfl⟩, ⟨_, _, rfl, rfl⟩, ⟨_, _, rfl, rfl⟩, ⟨_, _, rfl, rfl⟩, ⟨_, _, rfl, rfl⟩, ⟨_, _, rfl, rfl⟩, ⟨_, _, rfl, rfl⟩, ⟨_, _, rfl, rfl⟩, trivial⟩
  · rw [hn z]
    unfold least at hz
    unfold leastEs
    simp only [List.find?_cons, isStr_dec]
    repeat' split at hz
    all_goals first | (cases hz; done) | (simp [*])
  · rw [hn z]
    unfold least at hz
    unfold leastEs
    simp only [List.find?_cons, isStr_dec]
    repeat' split at hz
    all_goals first | (cases hz; done) | (cases hz; subst_vars; exact ⟨_, rfl⟩)
/-! ### loops -/
section
variable {K : PySem.W.Frag} {σ : L2.St} {G B : Hp} {ta tb te tl : TE} {t : TT} {v : V} {D : Ends} {tu tw tz ts : TS} {j : Nat}
def Kb (B : Hp) (P : L2.St → Hp → Prop) : L2.St → Hp → Prop := Kn fun σ G => Ex B G ∧ P σ G
theorem go_kb {P : L2.St → Hp → Prop} {rt : VK} {bk ct : L2.St → Hp → Prop} (hB : Ex B G) (h : P σ G) : Go tNext ⟨Kb B P, rt, bk, ct⟩ σ G := fun _ e => ⟨G, e, hB, h⟩
theorem go_forL {a : Addr} {xs : List V} (B : Hp) (h : Ev tl σ G (.ref a)) (hB : Ex B G) (hx : SqL K B a xs) (Pv : Nat → L2.St → Hp → Prop) (h0 : Pv 0 σ G)
    (hs : ∀ i x σ' G', xs[i]? = some x → Ex B G' → Pv i σ' G' → Go tu { D with nx := Kb B (Pv (i + 1)), ct := Kb B (Pv (i + 1)), bk := tz D } (σ'.set j (some x)) G')
    (hd : ∀ σ' G', Ex B G' → Pv xs.length σ' G' → Go tz D σ' G') : Go (tSeq (tFor (iList K tl) (gName j) tu) tz) D σ G := fun H e =>
  h H e _ fun H1 e1 => ⟨a, rfl, ⟨xs, ex_l ((hB.trans e).trans e1) hx⟩, for_list (fun i => Kb B (Pv i)) ⟨G, e.trans e1, hB, h0⟩ (fun i σ' H' _ ⟨G', e', b, _⟩ => ex_l (b.trans e') hx)
    (fun i x σ' H' hi ⟨G', e', b, p⟩ => hs i x σ' G' hi b p H' e') (fun σ' H' ⟨G', e', b, p⟩ => hd σ' G' b p H' e')⟩
theorem go_forT {a : Addr} {xs : List V} (B : Hp) (h : Ev tl σ G (.ref a)) (hB : Ex B G) (hx : SqT K B a xs) (Pv : Nat → L2.St → Hp → Prop) (h0 : Pv 0 σ G)
    (hs : ∀ i x σ' G', xs[i]? = some x → Ex B G' → Pv i σ' G' → Go tu { D with nx := Kb B (Pv (i + 1)), ct := Kb B (Pv (i + 1)), bk := tz D } (σ'.set j (some x)) G')
    (hd : ∀ σ' G', Ex B G' → Pv xs.length σ' G' → Go tz D σ' G') : Go (tSeq (tFor (iTup K tl) (gName j) tu) tz) D σ G := fun H e =>
  h H e _ fun H1 e1 => ⟨a, rfl, ⟨xs, ex_t ((hB.trans e).trans e1) hx⟩, for_tup (fun i => Kb B (Pv i)) ⟨G, e.trans e1, hB, h0⟩ (fun i σ' H' _ ⟨G', e', b, _⟩ => ex_t (b.trans e') hx)
    (fun i x σ' H' hi ⟨G', e', b, p⟩ => hs i x σ' G' hi b p H' e') (fun σ' H' ⟨G', e', b, p⟩ => hd σ' G' b p H' e')⟩
/-- over a list that is made on the way -/
theorem go_forNL {xs : List V} (h : EvL tl σ G xs) (Pv : Addr → Nat → L2.St → Hp → Prop) (h0 : ∀ p, G p = none → Pv p 0 σ (upd G p (.lst xs)))
    (hs : ∀ p i x σ' G', G p = none → xs[i]? = some x → Ex (upd G p (.lst xs)) G' → Pv p i σ' G' → Go tu { D with nx := Kb (upd G p (.lst xs)) (Pv p (i + 1)), ct := Kb (upd G p (.lst xs)) (Pv p (i + 1)), bk := tz D } (σ'.set j (some x)) G')
    (hd : ∀ p σ' G', G p = none → Ex (upd G p (.lst xs)) G' → Pv p xs.length σ' G' → Go tz D σ' G') : Go (tSeq (tFor (iList K tl) (gName j) tu) tz) D σ G := fun H e =>
  h H e _ fun p H1 hp e1 h1 => ⟨p, rfl, ⟨xs, sq_of h1⟩, for_list (fun i => Kb (upd G p (.lst xs)) (Pv p i)) ⟨_, (e.trans e1).know h1 (e.none hp), Ex.refl _, h0 p (e.none hp)⟩ (fun i σ' H' _ ⟨G', e', b, _⟩ => sq_of (e' _ _ (b _ _ upd_same)))
    (fun i x σ' H' hi ⟨G', e', b, q⟩ => hs p i x σ' G' (e.none hp) hi b q H' e') (fun σ' H' ⟨G', e', b, q⟩ => hd p σ' G' (e.none hp) b q H' e')⟩
theorem go_forR1 {tA : TA} {n : Int} (B : Hp) (h : EvA tA σ G [.int n]) (hn : n ≤ 100000 ∧ -100000 ≤ n) (hB : Ex B G) (Pv : Int → L2.St → Hp → Prop) (h0 : Pv 0 σ G)
    (hs : ∀ (k : Int) σ' G', 0 ≤ k → k < n → Ex B G' → Pv k σ' G' → Go tu { D with nx := Kb B (Pv (k + 1)), ct := Kb B (Pv (k + 1)), bk := tz D } (σ'.set j (some (.int k))) G')
    (hd : ∀ σ' G', Ex B G' → Pv (n.toNat : Int) σ' G' → Go tz D σ' G') : Go (tSeq (tFor (iRng1 tA) (gName j) tu) tz) D σ G := fun H e =>
  h H e _ fun H1 e1 => ⟨n, rfl, by omega, by omega, for_range (lo := 0) (n := n.toNat) (fun i : Nat => Kb B (Pv (i : Int))) ⟨G, e.trans e1, hB, h0⟩ (fun i σ' H' hi ⟨G', e', b, p⟩ => by
    have e0 : (0 : Int) + (i : Int) = (i : Int) := Int.zero_add _
    show tu _ (σ'.set j (some (.int ((0 : Int) + (i : Int))))) H'
    rw [e0]
    have q := hs (i : Int) σ' G' (by omega) (by omega) b p H' e'
    exact q) (fun σ' H' ⟨G', e', b, p⟩ => hd σ' G' b p H' e')⟩
theorem go_forR2 {tA : TA} {lo n : Int} (B : Hp) (h : EvA tA σ G [.int lo, .int n]) (hn : -100000 ≤ lo ∧ lo ≤ 100000 ∧ n ≤ 100000 ∧ -100000 ≤ n) (hB : Ex B G) (Pv : Int → L2.St → Hp → Prop) (h0 : Pv lo σ G)
    (hs : ∀ (k : Int) σ' G', lo ≤ k → k < n → Ex B G' → Pv k σ' G' → Go tu { D with nx := Kb B (Pv (k + 1)), ct := Kb B (Pv (k + 1)), bk := tz D } (σ'.set j (some (.int k))) G')
    (hd : ∀ σ' G', Ex B G' → Pv (lo + ((n - lo).toNat : Int)) σ' G' → Go tz D σ' G') : Go (tSeq (tFor (iRng2 tA) (gName j) tu) tz) D σ G := fun H e =>
  h H e _ fun H1 e1 => ⟨lo, n, rfl, ⟨by omega, by omega, by omega, by omega⟩, for_range (lo := lo) (n := (n - lo).toNat) (fun i : Nat => Kb B (Pv (lo + (i : Int)))) ⟨G, e.trans e1, hB, by show Pv (lo + ((0 : Nat) : Int)) σ G; rw [show lo + ((0 : Nat) : Int) = lo by omega]; exact h0⟩ (fun i σ' H' hi ⟨G', e', b, p⟩ => by
    have e0 : lo + (i : Int) + 1 = lo + ((i + 1 : Nat) : Int) := by omega
    have q := hs (lo + (i : Int)) σ' G' (by omega) (by omega) b p H' e'
    rw [e0] at q
    exact q) (fun σ' H' ⟨G', e', b, p⟩ => hd σ' G' b p H' e')⟩
/-- while: a word that falls -/
theorem go_while (W : Nat → L2.St → Hp → Prop) (m0 : Nat) (h0 : W m0 σ G)
    (hs : ∀ m σ' G', W m σ' G' → ∃ b, EvT t σ' G' b ∧ (b = true → Go tu { D with nx := Kn (fun σ2 G2 => ∃ m', m' < m ∧ W m' σ2 G2), ct := Kn (fun σ2 G2 => ∃ m', m' < m ∧ W m' σ2 G2), bk := tz D } σ' G') ∧ (b = false → Go tz D σ' G')) : Go (tSeq (tWhile t tu) tz) D σ G := fun H e =>
  ⟨fun m => Kn (W m), ⟨m0, G, e, h0⟩, fun m σ' H' ⟨G', e', w⟩ => by
    obtain ⟨b, hb, h1, h2⟩ := hs m σ' G' w
    refine hb H' e' _ fun H1 e1 => ?_
    cases b with
    | true => exact ⟨Kn (fun σ2 G2 => ∃ m', m' < m ∧ W m' σ2 G2), fun σ2 H2 ⟨G2, e2, m', hm, w2⟩ => ⟨m', hm, G2, e2, w2⟩, h1 rfl H1 (e'.trans e1)⟩
    | false => exact h2 rfl H1 (e'.trans e1)⟩
end
section
variable {K : PySem.W.Frag} {σ : L2.St} {G B : Hp} {ta tb te tl : TE} {t : TT} {v : V} {D : Ends} {tu tw tz ts : TS} {j p q : Nat}
/-- for place, x in enumerate(xs) -/
theorem go_forE {a : Addr} {xs : List V} {tA : TA} (B : Hp) (h : EvA tA σ G [.ref a]) (hB : Ex B G) (hx : SqL K B a xs) (Pv : Nat → L2.St → Hp → Prop) (h0 : Pv 0 σ G)
    (hs : ∀ i x σ' G', xs[i]? = some x → Ex B G' → Pv i σ' G' → Go tu { D with nx := Kb B (Pv (i + 1)), ct := Kb B (Pv (i + 1)), bk := tz D } ((σ'.set p (some (.int (i : Int)))).set q (some x)) G')
    (hd : ∀ σ' G', Ex B G' → Pv xs.length σ' G' → Go tz D σ' G') : Go (tSeq (tFor (iEnum K tA) (gTup K 2 (gCons (gName p) (gCons (gName q) gNil))) tu) tz) D σ G := fun H e =>
  h H e _ fun H1 e1 => ⟨a, xs, rfl, ex_l ((hB.trans e).trans e1) hx, fun i m σ H => m = xs.length - i ∧ i ≤ xs.length ∧ Kb B (Pv i) σ H, ⟨xs.length, by simp, Nat.zero_le _, G, e.trans e1, hB, h0⟩, by
    rintro i m σ' H' ⟨rfl, hi, G', e', b, pv⟩
    have hq : SqL K H' a xs := ex_l (b.trans e') hx
    by_cases hlt : i < xs.length
    · refine .inr ⟨⟨xs, xs[i], hq, by simp [hlt]⟩, Kb B (Pv (i + 1)), fun σ2 H2 p' => ⟨xs.length - (i + 1), by omega, rfl, hlt, p'⟩, fun x H2 y => ?_⟩
      obtain ⟨T, x', rfl, hT, rfl, hf⟩ := y
      have e2 : Ex G' (upd H' T (.tup [.int (i : Nat), x'])) := e'.trans (Ex.new hT)
      exact ⟨T, [.int (i : Nat), x'], rfl, st_of upd_same, rfl, _, _, rfl, _, _, rfl, rfl, hs i x' σ' G' (hf xs hq) b pv _ e2⟩
    · have ei : i = xs.length := by omega
      subst ei
      exact .inl ⟨⟨xs, hq, Nat.le_refl _⟩, hd σ' G' b pv H' e'⟩⟩
end
section
variable {K : PySem.W.Frag} {σ : L2.St} {G G' H : Hp} {ta tb te tx tl : TE} {t u : TT} {x y z v : V} {D : Ends} {tu tw tz ts : TS} {g : TG} {j : Nat} {vs : List Nat}
theorem el_lcT {a : Addr} {xs : List V} {tl : TE} {j : Nat} {vs : List Nat} (f : Nat → Bool) (v : Nat → V) (h : Ev tl σ H (.ref a)) (hx : SqT K H a xs) (hz : xs.length ≤ 40000) (hw : ∀ x, wipe ((wipe σ vs).set j (some x)) vs = wipe σ vs)
    (ht : ∀ (i : Nat) (x : V) H1, Ex H H1 → xs[i]? = some x → EvT t ((wipe σ vs).set j (some x)) H1 (f i)) (he : ∀ (i : Nat) (x : V) H1, Ex H H1 → xs[i]? = some x → f i = true → Ev te ((wipe σ vs).set j (some x)) H1 (v i)) :
    EvL (tLc (iTup K tl) (gName j) t te vs) σ H (given xs.length f v) := fun H0 e Q q => h H0 e _ fun H1 e1 => ⟨a, rfl, ⟨xs, ex_t (e.trans e1) hx⟩, fun Dl hD =>
  lc_tup (xs := xs) (Cw H1 f v Dl) ⟨hD, Ex.new hD, upd_same⟩ (fun i H' _ p => ex_t ((e.trans e1).trans p.2.1) hx) (fun i x H' hi p => ⟨hw x, cw_turn p (by have := (List.getElem?_eq_some_iff.mp hi).1; omega) (ht i x H1 (e.trans e1) hi) (fun hf => he i x H1 (e.trans e1) hi hf)⟩)
    (fun H' p => q Dl H' (fresh_back e1 p.1) (e1.trans p.2.1) p.2.2)⟩
/-- .. xs a tuple -/
theorem el_lcTF {α : Type} (as : List α) (inj : α → V) (p : α → Bool) (g : α → V) {a : Addr} (h : Ev tl σ G (.ref a)) (hx : SqT K G a (as.map inj)) (hz : as.length ≤ 40000) (hw : ∀ x, wipe ((wipe σ vs).set j (some x)) vs = wipe σ vs)
    (ht : ∀ x, x ∈ as → EvT t ((wipe σ vs).set j (some (inj x))) G (p x)) (he : ∀ x, x ∈ as → p x = true → Ev te ((wipe σ vs).set j (some (inj x))) G (g x)) :
    EvL (tLc (iTup K tl) (gName j) t te vs) σ G ((as.filter p).map g) := by
  cases as with
  | nil =>
    have q := el_lcT (K := K) (σ := σ) (H := G) (t := t) (te := te) (tl := tl) (j := j) (vs := vs) (a := a) (xs := []) (fun _ => true) (fun _ => V.non) h hx (Nat.zero_le _) hw (fun i x H1 _ hi => by simp at hi) (fun i x H1 _ hi => by simp at hi)
    exact q
  | cons d r =>
    have key : given (((d :: r).map inj)).length (fun i => p ((d :: r).getD i d)) (fun i => g ((d :: r).getD i d)) = ((d :: r).filter p).map g := by
      rw [List.length_map, given_all (d :: r) d p g _ (Nat.le_refl _), List.take_length]
    rw [← key]
    have item : ∀ (i : Nat) (x : V), ((d :: r).map inj)[i]? = some x → x = inj ((d :: r).getD i d) ∧ (d :: r).getD i d ∈ d :: r := fun i x hi => by
      rw [List.getElem?_map] at hi
      cases e : (d :: r)[i]? with
      | none => rw [e] at hi; cases hi
      | some y =>
        rw [e] at hi
        have e2 : (d :: r).getD i d = y := by rw [List.getD_eq_getElem?_getD, e]; rfl
        exact ⟨by rw [e2]; exact (Option.some.inj hi).symm, by rw [e2]; exact List.mem_of_getElem? e⟩
    refine el_lcT (K := K) _ _ h hx (by rw [List.length_map]; exact hz) hw (fun i x H1 e1 hi => ?_) (fun i x H1 e1 hi hf => ?_)
    · obtain ⟨rfl, hm⟩ := item i x hi
      exact (ht _ hm).mono e1
    · obtain ⟨rfl, hm⟩ := item i x hi
      exact (he _ hm hf).mono e1
/-- .. xs a tuple -/
theorem el_lcTA {α : Type} (as : List α) (inj : α → V) (g : α → V) {a : Addr} (h : Ev tl σ G (.ref a)) (hx : SqT K G a (as.map inj)) (hz : as.length ≤ 40000) (hw : ∀ x, wipe ((wipe σ vs).set j (some x)) vs = wipe σ vs)
    (he : ∀ x, x ∈ as → Ev te ((wipe σ vs).set j (some (inj x))) G (g x)) : EvL (tLc (iTup K tl) (gName j) tYes te vs) σ G (as.map g) := by
  have q := el_lcTF (K := K) (te := te) as inj (fun _ => true) g h hx hz hw (fun _ _ => et_yes) (fun x hx _ => he x hx)
  have e : as.filter (fun _ => true) = as := List.filter_eq_self.mpr fun _ _ => rfl
  rw [e] at q
  exact q
end
/-! ### the rules that speak of the written part, with it told -/
section
variable {X : Cx} (K : PySem.W.Frag)
theorem ixL (h : X.K = K := by rfl) : IxR X (rIxL K) := h ▸ ix_list
theorem ixT (h : X.K = K := by rfl) : IxR X (rIxT K) := h ▸ ix_tup
theorem c_len (h : X.K = K := by rfl) : CallR X (.builtin "len") (rLenS K) := h ▸ call_lenS
theorem c_list (h : X.K = K := by rfl) : CallR X (.type "list") (rListS K) := h ▸ call_listS
theorem c_tup (h : X.K = K := by rfl) : CallR X (.type "tuple") (rTupS K) := h ▸ call_tupS
theorem c_all (hc : X.calm = true) (h : X.K = K := by rfl) : CallR X (.builtin "all") (rAll K) := h ▸ cr_all hc
theorem c_any (hc : X.calm = true) (h : X.K = K := by rfl) : CallR X (.builtin "any") (rAny K) := h ▸ cr_any hc
theorem c_max (hc : X.calm = true) (h : X.K = K := by rfl) : CallR X (.builtin "max") (rMax K) := h ▸ cr_max hc
theorem c_isi (h : X.K = K := by rfl) : CallR X (.builtin "isinstance") (rIsi K) := h ▸ call_isi
theorem slL (h : X.K = K := by rfl) : L2.SlR X (rSlL K) := h ▸ sl_list
theorem slA (h : X.K = K := by rfl) : L2.SlR X (rSlA K) := h ▸ sl_tupA
theorem o_in (h : X.K = K := by rfl) : OpR X (compareOp .In) (rIn K false) := h ▸ op_in_seq
theorem o_notIn (h : X.K = K := by rfl) : OpR X (compareOp .NotIn) (rIn K true) := h ▸ op_notIn_seq
theorem o_eqD (hu : X.A.units + 64 < cLine) (h : X.K = K := by rfl) : OpR X (compareOp .Eq) (rEqD K) := h ▸ op_eqD hu
theorem o_neD (hu : X.A.units + 64 < cLine) (h : X.K = K := by rfl) : OpR X (compareOp .NotEq) (rNeD K) := h ▸ op_neD hu
theorem o_catA (h : X.K = K := by rfl) : OpR X (binaryOp .Add) (rCatA K) := h ▸ op_catA
theorem o_repT (h : X.K = K := by rfl) : OpR X (binaryOp .Mult) (rRepT K) := h ▸ op_repT
theorem pt_truK {a : Expr} {ta : TE} (ha : PE X a ta) (he : ∀ whole, isTrue a X.env whole = (do let v ← whole; standAt a.pos; holding [v] (truthy v)) := by intro _; rfl) (h : X.K = K := by rfl) : PT X a (tTrue K ta) := h ▸ pt_tru ha he
theorem pi_L {tg l : Expr} {tl : TE} (hl : PE X l tl) (h : X.K = K := by rfl) : PI X tg l (iList K tl) := h ▸ pi_list hl
theorem pi_T {tg l : Expr} {tl : TE} (hl : PE X l tl) (h : X.K = K := by rfl) : PI X tg l (iTup K tl) := h ▸ pi_tup hl
end
section
variable {K : PySem.W.Frag} {σ : L2.St} {G B : Hp} {ta tb te tl : TE} {t : TT} {x v : V} {D : Ends} {tu tw tz ts : TS} {j : Nat} {vs : List Nat}
theorem rv_notN : RV rNotN x .non G (.bl (!decide (x = .non))) := fun H1 _ _ q => ⟨rfl, q H1 (Ex.refl H1)⟩
theorem rv_isN : RV rIsN x .non G (.bl (decide (x = .non))) := fun H1 _ _ q => ⟨rfl, q H1 (Ex.refl H1)⟩
theorem ep_op1 {r : R2} {P R : V → Hp → Prop} (h : EvP ta σ G P) (k : ∀ v G', Ex G G' → P v G' → ∃ y z, Ev tb σ G' y ∧ RV r v y G' z ∧ R z G') : EvP (tOp r ta tb) σ G R := fun H e Q q =>
  h H e _ fun v G1 H1 g1 g2 e1 p => by
    obtain ⟨y, z, hy, hr, hR⟩ := k v G1 g1 p
    exact hy H1 g2 _ fun H2 e2 => hr H2 (g2.trans e2) Q fun H3 e3 => q z G1 H3 g1 ((g2.trans e2).trans e3) ((e1.trans e2).trans e3) hR
/-- arguments one of which raises -/
def EvAF (tA : TA) (σ : L2.St) (G : Hp) : Prop := ∀ H, Ex G H → ∀ Q, tA σ H Q
theorem eaf_hd {tA : TA} (h : EvF te σ G) : EvAF (tCons te tA) σ G := fun H e _ => h H e _
theorem eaf_tl {tA : TA} (h : Ev te σ G v) (h2 : EvAF tA σ G) : EvAF (tCons te tA) σ G := fun H e _ => h H e _ fun H1 e1 => h2 H1 (e.trans e1) _
theorem ef_lcR1 {tA : TA} {g : TG} (h : EvAF tA σ G) : EvF (tLc (iRng1 tA) g t te vs) σ G := fun H e _ => h H e _
theorem ef_callA {sp : Sp} {E : L2.St → XK} {tA : TA} (h : EvAF tA σ G) : EvF (tCallS sp E tA) σ G := fun H e _ => h H e _
theorem ef_cb {r : List V → Hp → VK → Prop} {tA : TA} (h : EvAF tA σ G) : EvF (tCB r tA) σ G := fun H e _ => h H e _
theorem go_forF {tA : TA} {g : TG} (h : EvAF tA σ G) : Go (tSeq (tFor (iRng1 tA) g tu) tz) D σ G := fun H e => h H e _
theorem go_forLF {g : TG} (h : EvF tl σ G) : Go (tSeq (tFor (iList K tl) g tu) tz) D σ G := fun H e => h H e _
end
section
variable {K : PySem.W.Frag} {σ : L2.St} {G B : Hp} {ta tb te tl : TE} {t : TT} {x v : V} {D : Ends} {tu tw tz ts : TS} {j : Nat} {vs : List Nat}
/-- tuple(xs) of a list: a new tuple -/
theorem eu_tupL {p : Addr} {xs : List V} (ha : Ev ta σ G (.ref p)) (h : SqL K G p xs) : EvU (tCB (rTupS K) (tCons ta tNil)) σ G xs := fun H1 e Q q =>
  ha H1 e _ fun H2 e2 => ⟨p, xs, rfl, Or.inl ⟨ex_l (e.trans e2) h, fun l hl => q l _ (fresh_back e2 hl) (e2.trans (Ex.new hl)) upd_same⟩⟩
theorem eu_tupNL {xs : List V} (ha : EvL ta σ G xs) : EvU (tCB (rTupS K) (tCons ta tNil)) σ G xs := fun H1 e Q q =>
  ha H1 e _ fun p H2 hp e2 h2 => ⟨p, xs, rfl, Or.inl ⟨sq_of h2, fun l hl => q l _ (fresh_back e2 hl) (e2.trans (Ex.new hl)) upd_same⟩⟩
/-- xs[lo:hi] of a list, small ends -/
theorem cut_nat {xs : List V} {a b : Nat} (h : a ≤ b) : cutV xs (some (a : Int)) (some (b : Int)) = (xs.drop a).take (b - a) := by
  unfold cutV
  rw [HT.sIx_nat, HT.sIx_nat]
  by_cases c : a ≤ xs.length
  · rw [Nat.min_eq_left c]
    by_cases c2 : b ≤ xs.length
    · rw [Nat.min_eq_left c2]
    · rw [Nat.min_eq_right (by omega), List.take_of_length_le (by rw [List.length_drop]; omega), List.take_of_length_le (by rw [List.length_drop]; omega)]
  · rw [Nat.min_eq_right (by omega), Nat.min_eq_right (by omega), List.drop_of_length_le (Nat.le_refl _), List.drop_of_length_le (by omega)]
    simp
end
theorem ty_list {K : PySem.W.Frag} {H : Hp} {a : Addr} {xs : List V} (h : SqL K H a xs) : TyX K H (.ref a) (.type "list") := by
  rcases h with (h | ⟨o, h⟩) | ⟨o, _, _, h, c, _⟩
  · exact .base (.lst h)
  · exact .base (.frz h)
  · exact .kList h c
theorem ty_tuple {K : PySem.W.Frag} {H : Hp} {a : Addr} {xs : List V} (h : SqT K H a xs) : TyX K H (.ref a) (.type "tuple") := by
  rcases h with (h | ⟨o, h⟩) | ⟨o, _, _, h, c, _⟩
  · exact .base (.tup h)
  · exact .fTuple h
  · exact .kTuple h c
/-! ### max(xs, default=d) of ints -/
def maxOr (d : Int) : List Int → Int
  | [] => d
  | n :: r => r.foldl max n
def rMaxDef (K : PySem.W.Frag) : List V → List V → Hp → VK → Prop := fun xs zs H Q => ∃ (a : Addr) (ns : List Int) (d : Int), xs = [.ref a] ∧ zs = [.int d] ∧ SqL K H a (ns.map V.int) ∧ Q (.int (maxOr d ns)) H
theorem depthAll_ints : ∀ ns : List Int, PyData.depthAll (ns.map PyData.int) = 0
  | [] => by simp [PyData.depthAll]
  | n :: r => by rw [List.map_cons, PyData.depthAll, depthAll_ints r]; simp [PyData.depth]
theorem alike_ints (ns : List Int) : PySem.W.AlikeAll (ns.map PyData.int) := by
  refine ⟨fun x hx y hy => ?_, fun x hx => ?_⟩
  · obtain ⟨i, _, rfl⟩ := List.mem_map.mp hx
    obtain ⟨j, _, rfl⟩ := List.mem_map.mp hy
    rfl
  · obtain ⟨i, _, rfl⟩ := List.mem_map.mp hx
    intro h; cases h
theorem cr_maxDef {X : Cx} (hc : X.calm = true) (hu : X.A.units + 64 < cLine) (K : PySem.W.Frag) (h : X.K = K := by rfl) : CallRK X (.builtin "max") [Str.ofString "default"] (rMaxDef K) := by
  subst h
  intro pins s σ H vs zs us ws Q I r rz h
  obtain ⟨a, ns, d, rfl, rfl, hs, q⟩ := h
  obtain rfl := Vals.ref1 r
  obtain ⟨w1, rfl, e1⟩ := vals1 rz
  obtain ⟨t, rfl⟩ := e1
  obtain ⟨its, rv, hl, _⟩ := I.list hs
  have hi := rv.ints
  refine PySem.W.max_list_default (vs := its.toArray) (I.ok.hd hc) hl.isList (hi.reads _) (alike_ints ns) (by rw [depthAll_ints]; omega) (fun e0 h' tk hk => ?_) (fun y ys i v h' tk bs e0 hv hR hk => ?_)
  · have : ns = [] := by simpa using e0
    subst this
    exact ⟨.int d, H, I.kept hk, ⟨_, rfl⟩, q⟩
  · cases ns with
    | nil => cases e0
    | cons n r =>
      rw [List.map_cons] at e0
      cases e0
      rw [PySem.W.maxD_ints] at hR
      cases hR
      exact ⟨.int (r.foldl max n), H, I.kept hk, ⟨_, rfl⟩, q⟩
section
variable {K : PySem.W.Frag} {σ : L2.St} {G : Hp} {ta tb : TE}
theorem ev_maxDefN {ns : List Int} {d : Int} (h : EvL ta σ G (ns.map V.int)) (h2 : Ev tb σ G (.int d)) : Ev (tCKw (rMaxDef K) (tCons ta tNil) (tCons tb tNil)) σ G (.int (maxOr d ns)) := fun H e Q q =>
  h H e _ fun p H1 hp e1 h1 => h2 H1 (e.trans e1) _ fun H2 e2 => ⟨p, ns, d, rfl, rfl, sq_of (e2 _ _ h1), q H2 (e1.trans e2)⟩
theorem ef_maxDef {r : List V → List V → Hp → VK → Prop} (h : EvF ta σ G) : EvF (tCKw r (tCons ta tNil) (tCons tb tNil)) σ G := fun H e _ => h H e _
end
/-! ### max of a list of ints that is made on the way -/
theorem maxOr_spec {n : Int} : ∀ r : List Int, maxOr 0 (n :: r) ∈ n :: r ∧ ∀ y, y ∈ n :: r → y ≤ maxOr 0 (n :: r) := by
  intro r
  show r.foldl max n ∈ n :: r ∧ ∀ y, y ∈ n :: r → y ≤ r.foldl max n
  induction r generalizing n with
  | nil => exact ⟨List.mem_cons_self, fun y hy => by rw [List.mem_singleton.mp hy]; exact Int.le_refl _⟩
  | cons k r ih =>
    rw [List.foldl_cons]
    obtain ⟨h1, h2⟩ := ih (n := max n k)
    constructor
    · rcases List.mem_cons.mp h1 with h | h
      · by_cases c : n ≤ k
        · rw [h, Int.max_eq_right c]; exact List.mem_cons_of_mem _ List.mem_cons_self
        · rw [h, Int.max_eq_left (by omega)]; exact List.mem_cons_self
      · exact List.mem_cons_of_mem _ (List.mem_cons_of_mem _ h)
    · intro y hy
      have h3 := h2 (max n k) List.mem_cons_self
      have := Int.le_max_left n k
      have := Int.le_max_right n k
      rcases List.mem_cons.mp hy with rfl | hy
      · omega
      · rcases List.mem_cons.mp hy with rfl | hy
        · omega
        · exact h2 y (List.mem_cons_of_mem _ hy)
theorem maxOr_un {ns : List Int} {m d : Int} (hm : m ∈ ns) (hu : ∀ y ∈ ns, y ≤ m) : m = maxOr d ns := by
  cases ns with
  | nil => cases hm
  | cons n r =>
    obtain ⟨h1, h2⟩ := maxOr_spec (n := n) r
    have e : maxOr d (n :: r) = maxOr 0 (n :: r) := rfl
    rw [e]
    have := hu _ h1
    have := h2 _ hm
    omega
theorem ev_maxN {K : PySem.W.Frag} {σ : L2.St} {G : Hp} {ta : TE} {ns : List Int} (h : EvL ta σ G (ns.map V.int)) (h0 : 0 < ns.length) : Ev (tCB (rMax K) (tCons ta tNil)) σ G (.int (maxOr 0 ns)) := fun H e Q q =>
  h H e _ fun p H1 _ e1 h1 => ⟨p, ns, rfl, sq_of h1, h0, fun m hm hu => by rw [maxOr_un (d := 0) hm hu]; exact q H1 e1⟩
section
variable {K : PySem.W.Frag} {σ : L2.St} {G : Hp} {ta tb tl : TE} {x : V} {D : Ends} {tu tz : TS} {j : Nat} {r : R2} {xs : List V}
theorem ef_op2 (h : Ev ta σ G x) (h2 : EvF tb σ G) : EvF (tOp r ta tb) σ G := fun H e _ => h H e _ fun H1 e1 => h2 H1 (e.trans e1) _
theorem ef_opL2 (h : EvL ta σ G xs) (h2 : EvF tb σ G) : EvF (tOp r ta tb) σ G := fun H e _ => h H e _ fun p H1 _ e1 _ => h2 H1 (e.trans e1) _
end
section
variable {K : PySem.W.Frag} {σ : L2.St} {G : Hp} {tl : TE} {x : V} {D : Ends} {tu tz : TS} {j : Nat}
/-- over a list that is made on the way; B: what stays in the body -/
theorem go_forNB {xs : List V} (B : Hp) (h : EvL tl σ G xs) (hB : Ex B G) (Pv : Addr → Nat → L2.St → Hp → Prop) (h0 : ∀ p, G p = none → Pv p 0 σ (upd G p (.lst xs)))
    (hs : ∀ p i x σ' G', G p = none → xs[i]? = some x → Ex (upd B p (.lst xs)) G' → Pv p i σ' G' → Go tu { D with nx := Kb (upd B p (.lst xs)) (Pv p (i + 1)), ct := Kb (upd B p (.lst xs)) (Pv p (i + 1)), bk := tz D } (σ'.set j (some x)) G')
    (hd : ∀ p σ' G', G p = none → Ex (upd B p (.lst xs)) G' → Pv p xs.length σ' G' → Go tz D σ' G') : Go (tSeq (tFor (iList K tl) (gName j) tu) tz) D σ G := fun H e =>
  h H e _ fun p H1 hp e1 h1 => ⟨p, rfl, ⟨xs, sq_of h1⟩, for_list (fun i => Kb (upd B p (.lst xs)) (Pv p i)) ⟨upd G p (.lst xs), (e.trans e1).know h1 (e.none hp), Ex.put hB, h0 p (e.none hp)⟩ (fun i σ' H' _ ⟨G', e', b, _⟩ => sq_of (e' _ _ (b _ _ upd_same)))
    (fun i x σ' H' hi ⟨G', e', b, q⟩ => hs p i x σ' G' (e.none hp) hi b q H' e') (fun σ' H' ⟨G', e', b, q⟩ => hd p σ' G' (e.none hp) b q H' e')⟩
end
section
variable {K : PySem.W.Frag} {σ : L2.St} {G : Hp} {ta : TE} {a : Addr} {xs : List V} {b : Bool}
theorem et_truT (h : Ev ta σ G (.ref a)) (hx : SqT K G a xs) (hb : b = !xs.isEmpty) : EvT (tTrue K ta) σ G b := fun H e Q q =>
  h H e _ fun H1 e1 => ⟨b, .inr (.inl ⟨xs, ex_t (e.trans e1) hx, hb⟩), q H1 e1⟩
theorem et_truL (h : Ev ta σ G (.ref a)) (hx : SqL K G a xs) (hb : b = !xs.isEmpty) : EvT (tTrue K ta) σ G b := fun H e Q q =>
  h H e _ fun H1 e1 => ⟨b, .inl ⟨xs, ex_l (e.trans e1) hx, hb⟩, q H1 e1⟩
end
/-- an if that is the last of its body: it ends as the body ends -/
theorem go_cutN {σ : L2.St} {G : Hp} {D : Ends} {ts : TS} (h : Go ts D σ G) : Go (tCut ts tNext) D σ G := fun H e => ⟨D.nx, h H e, fun _ _ m => m⟩
end Sg

namespace Sg
open PySem L2 Evl

/-! ### the program, plain -/
def wantsM (z : Str) : Except Err (Int × Int) := match least z with
  | none => .error .kind
  | some i => .ok (i, if i = 2 then 9 else i)
/-- what a kind answers of its sources' values -/
def answerV (z : Str) (bs : List Bool) : Bool :=
  if z = "yes" ∨ z = "no" then decide (z = "yes")
  else if z = "keep" ∨ z = "not" then decide (bs.getD 0 false = decide (z = "keep"))
  else if z = "both" then bs.all id
  else if z = "either" then bs.any id
  else if z = "pick" then (if bs.getD 0 false = true then bs.getD 1 false else bs.getD 2 false)
  else if z = "most" then decide (2 ≤ ((bs.filter id).length : Int))
  else decide (((bs.filter id).length : Int) % 2 = 1)
def answerM (z : Str) (bs : List Bool) : Except Err Bool := match wantsM z with
  | .error e => .error e
  | .ok (lo, hi) => if lo ≤ bs.length ∧ (bs.length : Int) ≤ hi then .ok (answerV z bs) else .error .sources

theorem answerM_ok {z : Str} {bs : List Bool} {b : Bool} (h : answerM z bs = .ok b) : b = answerV z bs ∧ ∃ i, least z = some i ∧ i ≤ bs.length := by
  unfold answerM wantsM at h
  cases e : least z with
  | none => rw [e] at h; cases h
  | some i =>
    rw [e] at h
    by_cases c : i ≤ bs.length ∧ (bs.length : Int) ≤ (if i = 2 then 9 else i)
    · simp only [if_pos c] at h
      injection h with h
      exact ⟨h.symm, i, rfl, c.1⟩
    · simp only [if_neg c] at h
      cases h
theorem least_cases {z : Str} {i : Int} (h : least z = some i) : z = "yes" ∨ z = "no" ∨ z = "keep" ∨ z = "not" ∨ z = "both" ∨ z = "either" ∨ z = "unlike" ∨ z = "pick" ∨ z = "most" := by
  unfold least at h
  repeat' split at h
  all_goals first | (cases h; done) | (simp only [*, true_or, or_true])
theorem all_count (bs : List Bool) : (bs.all id) = decide ((bs.filter id).length = bs.length) := by
  induction bs with
  | nil => rfl
  | cons b r ih =>
    have hle := List.length_filter_le id r
    cases b
    · rw [List.all_cons]
      simp
      omega
    · rw [List.all_cons, ih]
      simp
theorem any_count (bs : List Bool) : (bs.any id) = decide (0 < (bs.filter id).length) := by
  induction bs with
  | nil => rfl
  | cons b r ih =>
    cases b
    · rw [List.any_cons, ih]; simp
    · rw [List.any_cons]; simp

def kinds9 : List Str := ["yes", "no", "keep", "not", "both", "either", "unlike", "pick", "most"]
def lo9 : List Int := [0, 0, 1, 1, 2, 2, 2, 3, 3]
theorem wants_le {z : Str} {lo hi : Int} (h : wantsM z = .ok (lo, hi)) : 0 ≤ lo ∧ lo ≤ 3 ∧ hi ≤ 9 := by
  unfold wantsM at h
  cases e : least z with
  | none => rw [e] at h; cases h
  | some i =>
    rw [e] at h
    injection h with h
    injection h with h1 h2
    have : i = 0 ∨ i = 1 ∨ i = 2 ∨ i = 3 := by
      unfold least at e
      repeat' split at e
      all_goals first | (cases e; done) | (cases e; omega)
    subst h1 h2
    rcases this with rfl | rfl | rfl | rfl <;> decide
/-- a cell of the script -/
def cell (ns : List Int) (k : Int) : Int := ns.getD k.toNat 0

/-! ### plans, plain -/
structure Gate where
  kind : Str
  srcs : List Int
  delay : Int
structure Plan where
  many : Int
  gates : List Gate
def Plan.lines (p : Plan) : Int := p.many + p.gates.length
/-! what checked refuses -/
def errGate (g : Gate) (lines : Int) : Option Err := match wantsM g.kind with
  | .error e => some e
  | .ok b => if ¬ (b.1 ≤ g.srcs.length ∧ (g.srcs.length : Int) ≤ b.2) then some .sources
    else if (g.srcs.any fun s => !(decide (0 ≤ s) && decide (s < lines))) = true then some .line
    else if ¬ (1 ≤ g.delay ∧ g.delay ≤ 60) then some .delay else none
def errGates (lines : Int) : List Gate → Option Err
  | [] => none
  | g :: r => match errGate g lines with
    | some e => some e
    | none => errGates lines r
def errPlan (p : Plan) : Option Err := if ¬ (0 ≤ p.many ∧ p.many ≤ 60) ∨ 200 < p.gates.length then some .size else errGates p.lines p.gates
def orErr {α : Type} (o : Option Err) (a : α) : Except Err α := match o with
  | some e => .error e
  | none => .ok a
def checkedM (p : Plan) : Except Err Int := orErr (errPlan p) p.lines
theorem errGates_none {lines : Int} : ∀ {gs : List Gate}, errGates lines gs = none → ∀ g ∈ gs, errGate g lines = none
  | [], _, _, h => by cases h
  | g :: r, h, x, hx => by
    rw [errGates] at h
    cases e : errGate g lines with
    | some y => rw [e] at h; cases h
    | none =>
      rw [e] at h
      rcases List.mem_cons.mp hx with rfl | hx
      · exact e
      · exact errGates_none h x hx
theorem errGates_of {lines : Int} : ∀ {gs : List Gate}, (∀ g ∈ gs, errGate g lines = none) → errGates lines gs = none
  | [], _ => rfl
  | g :: r, h => by
    rw [errGates, h g List.mem_cons_self]
    exact errGates_of fun x hx => h x (List.mem_cons_of_mem _ hx)
/-- a right gate -/
theorem gate_ok {g : Gate} {lines : Int} (h : errGate g lines = none) : (∃ lo hi, wantsM g.kind = .ok (lo, hi) ∧ lo ≤ g.srcs.length ∧ (g.srcs.length : Int) ≤ hi) ∧ (∀ s ∈ g.srcs, 0 ≤ s ∧ s < lines) ∧ 1 ≤ g.delay ∧ g.delay ≤ 60 := by
  unfold errGate at h
  cases e : wantsM g.kind with
  | error x => rw [e] at h; cases h
  | ok b =>
    rw [e] at h
    have h : (if ¬ (b.1 ≤ g.srcs.length ∧ (g.srcs.length : Int) ≤ b.2) then some Err.sources else if (g.srcs.any fun s => !(decide (0 ≤ s) && decide (s < lines))) = true then some Err.line else if ¬ (1 ≤ g.delay ∧ g.delay ≤ 60) then some Err.delay else none) = none := h
    split at h
    · cases h
    · rename_i c1
      split at h
      · cases h
      · rename_i c2
        split at h
        · cases h
        · rename_i c3
          refine ⟨⟨b.1, b.2, rfl, Decidable.not_not.mp c1⟩, fun s hs => ?_, Decidable.not_not.mp c3⟩
          have c4 := List.any_eq_false.mp (by simpa using c2 : (g.srcs.any fun s => !(decide (0 ≤ s) && decide (s < lines))) = false) s hs
          simp at c4
          exact ⟨c4.1, c4.2⟩
theorem gate_err {g : Gate} {lines lo hi : Int} (h1 : wantsM g.kind = .ok (lo, hi)) (h2 : lo ≤ g.srcs.length ∧ (g.srcs.length : Int) ≤ hi) (h3 : ∀ s ∈ g.srcs, 0 ≤ s ∧ s < lines) (h4 : 1 ≤ g.delay ∧ g.delay ≤ 60) : errGate g lines = none := by
  unfold errGate
  rw [h1]
  have c2 : (g.srcs.any fun s => !(decide (0 ≤ s) && decide (s < lines))) = false := by
    rw [List.any_eq_false]
    intro s hs
    have := h3 s hs
    simp [this.1, this.2]
  show (if ¬ (lo ≤ g.srcs.length ∧ (g.srcs.length : Int) ≤ hi) then some Err.sources else if (g.srcs.any fun s => !(decide (0 ≤ s) && decide (s < lines))) = true then some Err.line else if ¬ (1 ≤ g.delay ∧ g.delay ≤ 60) then some Err.delay else none) = none
  rw [if_neg (fun h => h h2), c2, if_neg (by decide), if_neg (fun h => h h4)]
/-- a right plan -/
structure Valid (p : Plan) : Prop where
  m0 : 0 ≤ p.many
  m60 : p.many ≤ 60
  n200 : p.gates.length ≤ 200
  gate : ∀ g ∈ p.gates, errGate g p.lines = none
theorem valid_iff {p : Plan} : errPlan p = none ↔ Valid p := by
  unfold errPlan
  by_cases c : ¬ (0 ≤ p.many ∧ p.many ≤ 60) ∨ 200 < p.gates.length
  · rw [if_pos c]
    refine ⟨fun h => (by cases h), fun v => ?_⟩
    rcases c with c | c
    · exact absurd ⟨v.m0, v.m60⟩ c
    · exact absurd v.n200 (by omega)
  · rw [if_neg c]
    have c1 : 0 ≤ p.many ∧ p.many ≤ 60 := by
      by_cases h : 0 ≤ p.many ∧ p.many ≤ 60
      · exact h
      · exact absurd (Or.inl h) c
    have c2 : p.gates.length ≤ 200 := by
      by_cases h : 200 < p.gates.length
      · exact absurd (Or.inr h) c
      · omega
    exact ⟨fun h => ⟨c1.1, c1.2, c2, errGates_none h⟩, fun v => errGates_of v.gate⟩
/-! ### the order: gone through -/
def okSrcs (d : List Bool) (ss : List Int) : Bool := (ss.map fun s => d.getD s.toNat false).all id
/-- the least place from k on whose gate can be done -/
def readyAt (many : Int) (d : List Bool) : List Gate → Int → Option Int
  | [], _ => none
  | g :: r, k => if d.getD (many + k).toNat false = false ∧ okSrcs d g.srcs = true then some (many + k) else readyAt many d r (k + 1)
def readyM (p : Plan) (d : List Bool) : Option Int := readyAt p.many d p.gates 0
def goM (p : Plan) : Nat → List Int → List Bool → List Int × List Bool
  | 0, f, d => (f, d)
  | n + 1, f, d => match readyM p d with
    | none => (f, d)
    | some l => goM p n (f ++ [l]) (d.set l.toNat true)
def done0 (p : Plan) : List Bool := (List.range p.lines.toNat).map fun i : Nat => decide ((i : Int) < p.many)
def goneM (p : Plan) : List Int × List Bool := goM p (p.gates.length + 1) [] (done0 p)
def orderM (p : Plan) : Except Err (List Int) := match errPlan p with
  | some e => .error e
  | none => if (goneM p).1.length < p.gates.length then .error .ringed else .ok (goneM p).1
theorem errGates_first {lines : Int} {e : Err} : ∀ {gs : List Gate} {i : Nat} {g : Gate}, (∀ k g, k < i → gs[k]? = some g → errGate g lines = none) → gs[i]? = some g → errGate g lines = some e → errGates lines gs = some e
  | [], i, _, _, h, _ => by simp at h
  | x :: r, 0, g, _, h, he => by
    simp at h; subst h
    rw [errGates, he]
  | x :: r, i + 1, g, hk, h, he => by
    rw [errGates, hk 0 x (by omega) rfl]
    exact errGates_first (i := i) (fun k g hk' hg => hk (k + 1) g (by omega) (by simpa using hg)) (by simpa using h) he
theorem errGates_all {lines : Int} {gs : List Gate} (h : ∀ (k : Nat) g, gs[k]? = some g → errGate g lines = none) : errGates lines gs = none := errGates_of fun g hg => by
  obtain ⟨k, hk1, hk2⟩ := List.getElem_of_mem hg
  exact h k g (by rw [List.getElem?_eq_getElem hk1, hk2])

/-! ### how data stands in the heap -/
/-- values that stand for data, one by one -/
def Rows {α : Type} (R : V → α → Prop) (vs : List V) (as : List α) : Prop := vs.length = as.length ∧ ∀ (i : Nat) v a, vs[i]? = some v → as[i]? = some a → R v a
section
variable {α : Type} {R R' : V → α → Prop} {vs ws : List V} {as bs : List α} {v : V} {a : α}
theorem rows_nil : Rows R [] [] := ⟨rfl, fun i v a h => by simp at h⟩
theorem rows_imp (h : Rows R vs as) (f : ∀ v a, R v a → R' v a) : Rows R' vs as := ⟨h.1, fun i v a h1 h2 => f v a (h.2 i v a h1 h2)⟩
theorem rows_snoc (h : Rows R vs as) (r : R v a) : Rows R (vs ++ [v]) (as ++ [a]) := by
  refine ⟨by simp [h.1], fun i x y h1 h2 => ?_⟩
  by_cases c : i < vs.length
  · rw [List.getElem?_append_left c] at h1
    rw [List.getElem?_append_left (by rw [← h.1]; exact c)] at h2
    exact h.2 i x y h1 h2
  · have c' : vs.length ≤ i := by omega
    rw [List.getElem?_append_right c'] at h1
    rw [List.getElem?_append_right (by rw [← h.1]; exact c')] at h2
    rw [h.1] at h1
    have e1 : i - as.length = 0 := by
      have := (List.getElem?_eq_some_iff.mp h1).1
      simp at this
      exact this
    rw [e1] at h1 h2
    simp at h1 h2
    subst h1 h2
    exact r
theorem rows_append (h : Rows R vs as) (h' : Rows R ws bs) : Rows R (vs ++ ws) (as ++ bs) := by
  refine ⟨by simp [h.1, h'.1], fun i x y h1 h2 => ?_⟩
  by_cases c : i < vs.length
  · rw [List.getElem?_append_left c] at h1
    rw [List.getElem?_append_left (by rw [← h.1]; exact c)] at h2
    exact h.2 i x y h1 h2
  · have c' : vs.length ≤ i := by omega
    rw [List.getElem?_append_right c'] at h1
    rw [List.getElem?_append_right (by rw [← h.1]; exact c'), ← h.1] at h2
    exact h'.2 _ x y h1 h2
theorem rows_set (h : Rows R vs as) (i : Nat) (r : R v a) : Rows R (vs.set i v) (as.set i a) := by
  refine ⟨by simp [h.1], fun k x y h1 h2 => ?_⟩
  rw [List.getElem?_set] at h1 h2
  by_cases c : i = k
  · subst c
    simp only [if_true] at h1 h2
    rw [← h.1] at h2
    split at h1
    · rename_i hl
      rw [if_pos hl] at h2
      cases h1; cases h2
      exact r
    · cases h1
  · rw [if_neg c] at h1 h2
    exact h.2 k x y h1 h2
theorem rows_get (h : Rows R vs as) {i : Nat} (ha : as[i]? = some a) : ∃ v, vs[i]? = some v ∧ R v a := by
  have hl : i < vs.length := by rw [h.1]; exact (List.getElem?_eq_some_iff.mp ha).1
  exact ⟨vs[i], List.getElem?_eq_getElem hl, h.2 i _ _ (List.getElem?_eq_getElem hl) ha⟩
theorem rows_get' (h : Rows R vs as) {i : Nat} (hv : vs[i]? = some v) : ∃ a, as[i]? = some a ∧ R v a := by
  have hl : i < as.length := by rw [← h.1]; exact (List.getElem?_eq_some_iff.mp hv).1
  exact ⟨as[i], List.getElem?_eq_getElem hl, h.2 i _ _ hv (List.getElem?_eq_getElem hl)⟩
end
/-- a gate, a plan -/
def GateAt (K : PySem.W.Frag) (H : Hp) (v : V) (g : Gate) : Prop := ∃ a s, v = .ref a ∧ SqT K H a [.str g.kind, .ref s, .int g.delay] ∧ SqT K H s (g.srcs.map V.int)
def GatesAt (K : PySem.W.Frag) (H : Hp) (a : Addr) (gs : List Gate) : Prop := ∃ vs, SqL K H a vs ∧ Rows (GateAt K H) vs gs
def PlanAt (K : PySem.W.Frag) (H : Hp) (v : V) (p : Plan) : Prop := ∃ a g, v = .ref a ∧ SqT K H a [.int p.many, .ref g] ∧ GatesAt K H g p.gates
section
variable {K : PySem.W.Frag} {H H' : Hp} {v : V} {g : Gate} {gs : List Gate} {p : Plan} {a : Addr}
theorem GateAt.mono (e : Ex H H') (h : GateAt K H v g) : GateAt K H' v g := by
  obtain ⟨a, s, rfl, h1, h2⟩ := h
  exact ⟨a, s, rfl, ex_t e h1, ex_t e h2⟩
theorem GatesAt.mono (e : Ex H H') (h : GatesAt K H a gs) : GatesAt K H' a gs := by
  obtain ⟨vs, h1, h2⟩ := h
  exact ⟨vs, ex_l e h1, rows_imp h2 fun _ _ r => r.mono e⟩
theorem PlanAt.mono (e : Ex H H') (h : PlanAt K H v p) : PlanAt K H' v p := by
  obtain ⟨a, g, rfl, h1, h2⟩ := h
  exact ⟨a, g, rfl, ex_t e h1, h2.mono e⟩
/-- a tuple stays when a list changes -/
theorem sqT_put {xs : List V} {l : Addr} {ys : List V} {o : HO} (hl : H l = some (.lst ys)) (h : SqT K H a xs) : SqT K (upd H l o) a xs := by
  rcases h with h | h
  · refine .inl ?_
    rcases h with h | ⟨ob, h⟩
    · refine .inl ?_
      rw [upd_ne]
      · exact h
      · exact ne_of h hl (by intro z; cases z)
    · refine .inr ⟨ob, ?_⟩
      rw [upd_ne]
      · exact h
      · exact ne_of h hl (by intro z; cases z)
  · exact .inr h
theorem GateAt.put {l : Addr} {ys : List V} {o : HO} (hl : H l = some (.lst ys)) (h : GateAt K H v g) : GateAt K (upd H l o) v g := by
  obtain ⟨a, s, rfl, h1, h2⟩ := h
  exact ⟨a, s, rfl, sqT_put hl h1, sqT_put hl h2⟩
end
/-- as data, for == -/
def gateD (g : Gate) : PyData := .tuple [.str g.kind, .tuple (g.srcs.map .int), .int g.delay]
def planD (p : Plan) : PyData := .tuple [.int p.many, .list (p.gates.map gateD)]
theorem GateAt.dp {K : PySem.W.Frag} {H : Hp} {v : V} {g : Gate} (h : GateAt K H v g) : Dp K H v (gateD g) := by
  obtain ⟨a, s, rfl, h1, h2⟩ := h
  exact .tup h1 (.cons (.str _) (.cons (.tup h2 (dpAll_map _ _ g.srcs fun b _ => .int b)) (.cons (.int _) .nil)))
theorem dpAll_rows {K : PySem.W.Frag} {H : Hp} {α : Type} {R : V → α → Prop} (f : α → PyData) (hf : ∀ v a, R v a → Dp K H v (f a)) : ∀ {vs : List V} {as : List α}, Rows R vs as → DpAll K H vs (as.map f)
  | [], [], _ => .nil
  | [], _ :: _, h => by have := h.1; simp at this
  | _ :: _, [], h => by have := h.1; simp at this
  | v :: vs, a :: as, h => .cons (hf v a (h.2 0 v a rfl rfl)) (dpAll_rows f hf ⟨by have := h.1; simpa using this, fun i x y h1 h2 => h.2 (i + 1) x y (by simpa using h1) (by simpa using h2)⟩)
theorem PlanAt.dp {K : PySem.W.Frag} {H : Hp} {v : V} {p : Plan} (h : PlanAt K H v p) : Dp K H v (planD p) := by
  obtain ⟨a, g, rfl, h1, vs, h2, h3⟩ := h
  exact .tup h1 (.cons (.int _) (.cons (.lst h2 (dpAll_rows gateD (fun _ _ r => r.dp) h3)) .nil))
theorem gateD_lay {g : Gate} (h : PyData.strOk g.kind = true) : (gateD g).canLay0 = true := by
  unfold gateD
  rw [PyData.canLay0, PyData.canLayAll0, PyData.canLay0, h, PyData.canLayAll0, PyData.canLay0, canLayAll_map _ _ fun _ _ => by simp [PyData.canLay0], PyData.canLayAll0, PyData.canLay0, PyData.canLayAll0]; rfl
theorem gateD_deep (g : Gate) : (gateD g).depth ≤ 3 := by
  unfold gateD
  have := depthAll_map PyData.int 0 g.srcs fun _ _ => by simp [PyData.depth]
  simp only [PyData.depth, PyData.depthAll]
  omega
theorem planD_shaped {p : Plan} (h : ∀ g ∈ p.gates, PyData.strOk g.kind = true) : SeqAt.shaped (planD p) = true := by
  unfold SeqAt.shaped planD
  have := depthAll_map gateD 3 p.gates fun g _ => gateD_deep g
  rw [PyData.canLay0, PyData.canLayAll0, PyData.canLay0, PyData.canLayAll0, PyData.canLay0, canLayAll_map _ _ fun g hg => gateD_lay (h g hg), PyData.canLayAll0]
  simp only [PyData.depth, PyData.depthAll]
  simp
  omega
/-- (kind, sources, delay), the sources a tuple made on the way -/
theorem ep_gate {K : PySem.W.Frag} {σ : L2.St} {G : Hp} {tk tss td : TE} {z : Str} {ss : List Int} {d : Int} (h1 : Ev tk σ G (.str z)) (h2 : EvU tss σ G (ss.map V.int)) (h3 : Ev td σ G (.int d)) :
    EvP (tTup (tCons tk (tCons tss (tCons td tNil)))) σ G fun v G' => GateAt K G' v ⟨z, ss, d⟩ := fun H e Q q =>
  h1 H e _ fun H1 e1 => h2 H1 (e.trans e1) _ fun p H2 hp e2 hp2 => h3 H2 ((e.trans e1).trans e2) _ fun H3 e3 =>
    ⟨sz_of (by show 3 ≤ 100000; decide), fun a ha => q _ (upd H3 a (.tup [.str z, .ref p, .int d])) _ ((((e.trans e1).trans e2).trans e3).trans (Ex.new ha)) (Ex.refl _) (((e1.trans e2).trans e3).trans (Ex.new ha))
      ⟨a, p, rfl, st_of upd_same, ex_t (Ex.new ha) (st_of (e3 _ _ hp2))⟩⟩
/-- .. the sources a tuple that stands -/
theorem ep_gateR {K : PySem.W.Frag} {σ : L2.St} {G : Hp} {tk tss td : TE} {z : Str} {ss : List Int} {d : Int} {s : Addr} (h1 : Ev tk σ G (.str z)) (h2 : Ev tss σ G (.ref s)) (hs : SqT K G s (ss.map V.int)) (h3 : Ev td σ G (.int d)) :
    EvP (tTup (tCons tk (tCons tss (tCons td tNil)))) σ G fun v G' => GateAt K G' v ⟨z, ss, d⟩ := fun H e Q q =>
  h1 H e _ fun H1 e1 => h2 H1 (e.trans e1) _ fun H2 e2 => h3 H2 ((e.trans e1).trans e2) _ fun H3 e3 =>
    ⟨sz_of (by show 3 ≤ 100000; decide), fun a ha => q _ (upd H3 a (.tup [.str z, .ref s, .int d])) _ ((((e.trans e1).trans e2).trans e3).trans (Ex.new ha)) (Ex.refl _) (((e1.trans e2).trans e3).trans (Ex.new ha))
      ⟨a, s, rfl, st_of upd_same, ex_t ((((e.trans e1).trans e2).trans e3).trans (Ex.new ha)) hs⟩⟩
theorem gates_put {K : PySem.W.Frag} {G G' : Hp} {vs ys : List V} {gs : List Gate} {l : Addr} {o : HO} (h : Rows (GateAt K G) vs gs) (e : Ex G G') (hl : G' l = some (.lst ys)) : Rows (GateAt K (upd G' l o)) vs gs := rows_imp h fun _ _ r => (r.mono e).put hl
/-- (many, gates), the list made on the way -/
theorem ep_plan {K : PySem.W.Frag} {σ : L2.St} {G : Hp} {ta tb : TE} {vs : List V} {p : Plan} (h1 : Ev ta σ G (.int p.many)) (h2 : EvL tb σ G vs) (hR : Rows (GateAt K G) vs p.gates) :
    EvP (tTup (tCons ta (tCons tb tNil))) σ G fun v G' => PlanAt K G' v p := fun H e Q q =>
  h1 H e _ fun H1 e1 => h2 H1 (e.trans e1) _ fun g H2 hg e2 hl =>
    ⟨sz_of (by show 2 ≤ 100000; decide), fun a ha => q _ (upd H2 a (.tup [.int p.many, .ref g])) _ (((e.trans e1).trans e2).trans (Ex.new ha)) (Ex.refl _) ((e1.trans e2).trans (Ex.new ha))
      ⟨a, g, rfl, st_of upd_same, vs, ex_l (Ex.new ha) (sq_of hl), rows_imp hR fun _ _ r => r.mono (((e.trans e1).trans e2).trans (Ex.new ha))⟩⟩

/-! ### the order's mathematics -/
def cntF (d : List Bool) : Nat := (d.filter fun b => !b).length
theorem readyAt_some {many l : Int} {d : List Bool} : ∀ {gs : List Gate} {k : Int}, readyAt many d gs k = some l → ∃ (i : Nat) (g : Gate), gs[i]? = some g ∧ l = many + (k + i) ∧ d.getD l.toNat false = false ∧ okSrcs d g.srcs = true
  | [], _, h => by cases h
  | g :: r, k, h => by
    rw [readyAt] at h
    split at h
    · rename_i c
      have e : many + k = l := Option.some.inj h
      exact ⟨0, g, rfl, by omega, by rw [← e]; exact c.1, c.2⟩
    · obtain ⟨i, g', h1, h2, h3, h4⟩ := readyAt_some h
      exact ⟨i + 1, g', by simpa using h1, by rw [h2]; omega, h3, h4⟩
theorem readyAt_none {many : Int} {d : List Bool} : ∀ {gs : List Gate} {k : Int}, readyAt many d gs k = none → ∀ (i : Nat) (g : Gate), gs[i]? = some g → d.getD (many + (k + i)).toNat false = true ∨ okSrcs d g.srcs = false
  | [], _, _, i, g, hg => by simp at hg
  | x :: r, k, h, i, g, hg => by
    rw [readyAt] at h
    split at h
    · cases h
    · rename_i c
      cases i with
      | zero =>
        simp at hg; subst hg
        have e : (many + (k + ((0 : Nat) : Int))) = many + k := by omega
        rw [e]
        cases h1 : d.getD (many + k).toNat false
        · cases h2 : okSrcs d x.srcs
          · exact .inr rfl
          · exact absurd ⟨h1, h2⟩ c
        · exact .inl rfl
      | succ i =>
        have := readyAt_none h i g (by simpa using hg)
        have e : (many + (k + 1 + (i : Int))) = many + (k + ((i + 1 : Nat) : Int)) := by omega
        rw [e] at this
        exact this
theorem ready_some {p : Plan} {d : List Bool} {l : Int} (h : readyM p d = some l) : ∃ (i : Nat) (g : Gate), p.gates[i]? = some g ∧ l = p.many + i ∧ d.getD l.toNat false = false ∧ okSrcs d g.srcs = true := by
  obtain ⟨i, g, h1, h2, h3⟩ := readyAt_some h
  exact ⟨i, g, h1, by omega, h3⟩
theorem ready_none {p : Plan} {d : List Bool} (h : readyM p d = none) (i : Nat) (g : Gate) (hg : p.gates[i]? = some g) : d.getD (p.many + i).toNat false = true ∨ okSrcs d g.srcs = false := by
  have := readyAt_none h i g hg
  rw [show p.many + (0 + (i : Int)) = p.many + i by omega] at this
  exact this
theorem cntF_set : ∀ {d : List Bool} {i : Nat}, i < d.length → d.getD i false = false → cntF (d.set i true) + 1 = cntF d
  | [], i, h, _ => by simp at h
  | b :: r, 0, _, h => by
    have : b = false := by simpa using h
    subst this
    simp [cntF]
  | b :: r, i + 1, h, h2 => by
    have ih := cntF_set (d := r) (i := i) (by simpa using h) (by simpa using h2)
    cases b <;> simp [cntF] at ih ⊢ <;> omega
theorem cntF_le (d : List Bool) : cntF d ≤ d.length := List.length_filter_le _ _
theorem done0_len (p : Plan) : (done0 p).length = p.lines.toNat := by unfold done0; rw [List.length_map, List.length_range]
theorem done0_get {p : Plan} {i : Nat} (h : i < p.lines.toNat) : (done0 p).getD i false = decide ((i : Int) < p.many) := by
  unfold done0
  rw [List.getD_eq_getElem?_getD, List.getElem?_map, List.getElem?_range h]
  rfl
theorem cntF_app (a b : List Bool) : cntF (a ++ b) = cntF a + cntF b := by unfold cntF; rw [List.filter_append, List.length_append]
theorem cntF_done (m : Int) (hm : 0 ≤ m) : ∀ n : Nat, cntF ((List.range (m.toNat + n)).map fun i : Nat => decide ((i : Int) < m)) = n
  | 0 => by
    unfold cntF
    rw [List.length_eq_zero_iff, List.filter_eq_nil_iff]
    intro b hb
    obtain ⟨i, hi, rfl⟩ := List.mem_map.mp hb
    have := List.mem_range.mp hi
    simp; omega
  | n + 1 => by
    rw [show m.toNat + (n + 1) = (m.toNat + n) + 1 from rfl, List.range_succ, List.map_append, cntF_app, cntF_done m hm n]
    have : ¬ (((m.toNat + n : Nat) : Int) < m) := by omega
    simp only [List.map_cons, List.map_nil, this, decide_false]
    rfl
theorem cntF_done0 {p : Plan} (h : 0 ≤ p.many) : cntF (done0 p) = p.gates.length := by
  unfold done0
  have e : p.lines.toNat = p.many.toNat + p.gates.length := by unfold Plan.lines; omega
  rw [e]
  exact cntF_done p.many h p.gates.length
/-! what goM keeps -/
/-- between two turns: what is found is what is done of the gates, each behind its sources -/
structure GoInv (p : Plan) (f : List Int) (d : List Bool) : Prop where
  len : (d.length : Int) = p.lines
  inp : ∀ i : Nat, (i : Int) < p.many → d.getD i false = true
  fnd : ∀ l : Int, l ∈ f ↔ p.many ≤ l ∧ l < p.lines ∧ d.getD l.toNat false = true
  nd : f.Nodup
  cnt : f.length + cntF d = p.gates.length
theorem goInv0 {p : Plan} (h : 0 ≤ p.many) : GoInv p [] (done0 p) := by
  have hl : 0 ≤ p.lines := by unfold Plan.lines; omega
  refine ⟨by rw [done0_len]; omega, fun i hi => ?_, fun l => ?_, List.nodup_nil, by rw [cntF_done0 h]; simp⟩
  · rw [done0_get (by unfold Plan.lines; omega)]; exact decide_eq_true hi
  · constructor
    · intro h; cases h
    · rintro ⟨h1, h2, h3⟩
      rw [done0_get (by omega)] at h3
      have := of_decide_eq_true h3
      omega
theorem getD_set {d : List Bool} {i j : Nat} {b : Bool} (h : i < d.length) : (d.set i b).getD j false = if i = j then b else d.getD j false := by
  rw [List.getD_eq_getElem?_getD, List.getElem?_set]
  by_cases c : i = j
  · subst c; simp [h]
  · simp [c, List.getD_eq_getElem?_getD]
theorem GoInv.step {p : Plan} {f : List Int} {d : List Bool} {l : Int} (v : GoInv p f d) (hm : 0 ≤ p.many) (h : readyM p d = some l) : GoInv p (f ++ [l]) (d.set l.toNat true) ∧ cntF (d.set l.toNat true) + 1 = cntF d ∧ p.many ≤ l ∧ l < p.lines := by
  obtain ⟨i, g, hg, hl, hd, hs⟩ := ready_some h
  have hi : i < p.gates.length := (List.getElem?_eq_some_iff.mp hg).1
  have l0 : p.many ≤ l := by omega
  have l1 : l < p.lines := by unfold Plan.lines; omega
  have ln : l.toNat < d.length := by have := v.len; omega
  have hc := cntF_set ln hd
  have nl : l ∉ f := fun h => by
    have := ((v.fnd l).mp h).2.2
    rw [hd] at this; cases this
  refine ⟨⟨by rw [List.length_set]; exact v.len, fun j hj => ?_, fun x => ?_, ?_, ?_⟩, hc, l0, l1⟩
  · rw [getD_set ln]
    split
    · rfl
    · exact v.inp j hj
  · rw [getD_set ln, List.mem_append, v.fnd x, List.mem_singleton]
    constructor
    · rintro (⟨h1, h2, h3⟩ | rfl)
      · exact ⟨h1, h2, by split; rfl; exact h3⟩
      · exact ⟨l0, l1, by rw [if_pos rfl]⟩
    · rintro ⟨h1, h2, h3⟩
      by_cases c : l.toNat = x.toNat
      · right; omega
      · rw [if_neg c] at h3
        exact .inl ⟨h1, h2, h3⟩
  · rw [List.nodup_append]
    exact ⟨v.nd, by simp, fun a ha b hb => by rw [List.mem_singleton] at hb; subst hb; intro e; subst e; exact nl ha⟩
  · rw [List.length_append]
    have := v.cnt
    simp; omega
theorem goM_inv {p : Plan} (hm : 0 ≤ p.many) : ∀ (n : Nat) (f : List Int) (d : List Bool), GoInv p f d → cntF d < n → GoInv p (goM p n f d).1 (goM p n f d).2 ∧ readyM p (goM p n f d).2 = none
  | 0, _, _, _, h => absurd h (Nat.not_lt_zero _)
  | n + 1, f, d, v, h => by
    rw [goM]
    cases e : readyM p d with
    | none => exact ⟨v, e⟩
    | some l =>
      obtain ⟨v', hc, _⟩ := v.step hm e
      exact goM_inv hm n _ _ v' (by omega)
theorem gone_inv {p : Plan} (hm : 0 ≤ p.many) : GoInv p (goneM p).1 (goneM p).2 ∧ readyM p (goneM p).2 = none :=
  goM_inv hm _ _ _ (goInv0 hm) (by rw [cntF_done0 hm]; omega)
/-- each found line comes behind its sources: along goM -/
theorem okSrcs_iff {d : List Bool} {ss : List Int} : okSrcs d ss = true ↔ ∀ s ∈ ss, d.getD s.toNat false = true := by
  unfold okSrcs
  rw [List.all_eq_true]
  simp
/-! ### a plan without a ring -/
/-- a number of each line that falls from a gate to its sources -/
def Ranked (p : Plan) (rk : Int → Nat) : Prop := ∀ (i : Nat) (g : Gate), p.gates[i]? = some g → ∀ s ∈ g.srcs, rk s < rk (p.many + i)
def Free (p : Plan) : Prop := ∃ rk, Ranked p rk
theorem gone_all {p : Plan} (v : Valid p) (h : Free p) : ∀ i : Nat, i < p.gates.length → (goneM p).2.getD (p.many + i).toNat false = true := by
  obtain ⟨rk, hr⟩ := h
  obtain ⟨gi, hn⟩ := gone_inv v.m0
  have main : ∀ n (i : Nat), i < p.gates.length → rk (p.many + i) < n → (goneM p).2.getD (p.many + i).toNat false = true := by
    intro n
    induction n with
    | zero => intro i _ h; omega
    | succ n ih =>
      intro i hi hrk
      have hg : p.gates[i]? = some p.gates[i] := List.getElem?_eq_getElem hi
      rcases ready_none hn i _ hg with h | h
      · exact h
      · exfalso
        have h2 : okSrcs (goneM p).2 p.gates[i].srcs = true := okSrcs_iff.mpr fun s hs => by
          obtain ⟨_, hsr, _⟩ := gate_ok (v.gate _ (List.getElem_mem hi))
          obtain ⟨s0, s1⟩ := hsr s hs
          by_cases c : s < p.many
          · exact gi.inp s.toNat (by omega)
          · have e : s = p.many + ((s - p.many).toNat : Int) := by omega
            have hj : (s - p.many).toNat < p.gates.length := by unfold Plan.lines at s1; omega
            have hrs := hr i _ hg s hs
            rw [e]
            exact ih _ hj (by rw [← e]; omega)
        rw [h] at h2; cases h2
  intro i hi
  exact main _ i hi (Nat.lt_succ_self _)
theorem cntF_zero : ∀ {d : List Bool}, (∀ i, i < d.length → d.getD i false = true) → cntF d = 0
  | [], _ => rfl
  | b :: r, h => by
    have h0 : b = true := by simpa using h 0 (by simp)
    have ih := cntF_zero (d := r) fun i hi => by simpa using h (i + 1) (by simpa using hi)
    subst h0
    simpa [cntF] using ih
theorem gone_full {p : Plan} (v : Valid p) (h : Free p) : (goneM p).1.length = p.gates.length := by
  obtain ⟨gi, _⟩ := gone_inv v.m0
  have := gi.cnt
  have z : cntF (goneM p).2 = 0 := cntF_zero fun i hi => by
    by_cases c : (i : Int) < p.many
    · exact gi.inp i c
    · have hl := gi.len
      have m0 := v.m0
      have := gone_all v h (i - p.many.toNat) (by unfold Plan.lines at hl; omega)
      rw [show (p.many + ((i - p.many.toNat : Nat) : Int)).toNat = i by omega] at this
      exact this
  omega
theorem order_free {p : Plan} (v : Valid p) (h : Free p) : orderM p = .ok (goneM p).1 := by
  unfold orderM
  rw [valid_iff.mpr v]
  show (if (goneM p).1.length < p.gates.length then Except.error Err.ringed else .ok (goneM p).1) = _
  rw [if_neg (by rw [gone_full v h]; omega)]
/-! step by step -/
def doneBy (d : List Bool) (ls : List Int) : List Bool := ls.foldl (fun d l => d.set l.toNat true) d
theorem doneBy_snoc (d : List Bool) (ls : List Int) (l : Int) : doneBy d (ls ++ [l]) = (doneBy d ls).set l.toNat true := by
  unfold doneBy; rw [List.foldl_append]; rfl
theorem doneBy_len (d : List Bool) : ∀ ls : List Int, (doneBy d ls).length = d.length := fun ls => by
  induction ls generalizing d with
  | nil => rfl
  | cons l r ih => exact (ih _).trans List.length_set
theorem goM_steps {p : Plan} : ∀ (n : Nat) (f : List Int) (d : List Bool), ∃ rest, (goM p n f d).1 = f ++ rest ∧ ∀ (i : Nat) (l : Int), rest[i]? = some l → readyM p (doneBy d (rest.take i)) = some l
  | 0, f, d => ⟨[], by rw [goM, List.append_nil], fun i l h => by simp at h⟩
  | n + 1, f, d => by
    rw [goM]
    cases e : readyM p d with
    | none => exact ⟨[], by rw [List.append_nil], fun i l h => by simp at h⟩
    | some l =>
      obtain ⟨rest, h1, h2⟩ := goM_steps (p := p) n (f ++ [l]) (d.set l.toNat true)
      refine ⟨l :: rest, by show (goM p n _ _).1 = _; rw [h1, List.append_assoc]; rfl, fun i x hx => ?_⟩
      cases i with
      | zero =>
        have : l = x := by simpa using hx
        subst this
        exact e
      | succ i => exact h2 i x (by simpa using hx)
theorem gone_steps (p : Plan) (i : Nat) (l : Int) (h : (goneM p).1[i]? = some l) : readyM p (doneBy (done0 p) ((goneM p).1.take i)) = some l := by
  obtain ⟨rest, h1, h2⟩ := goM_steps (p := p) (p.gates.length + 1) [] (done0 p)
  have e : (goneM p).1 = rest := h1
  rw [e] at h ⊢
  exact h2 i l h

/-! ### how the laws make gates -/
def some11 : List Int := [99991, 99989, 99971, 99961, 99929, 99923, 99907, 99901, 99881, 99877, 99871]
def mixed (c k m : Int) : Int := (c + 7 * k) * 48271 % some11.getD (k % 11).toNat 0 % m
theorem some11_pos {k : Int} (h0 : 0 ≤ k) (h1 : k < 11) : 0 < some11.getD k.toNat 0 := by
  have h : k = 0 ∨ k = 1 ∨ k = 2 ∨ k = 3 ∨ k = 4 ∨ k = 5 ∨ k = 6 ∨ k = 7 ∨ k = 8 ∨ k = 9 ∨ k = 10 := by omega
  rcases h with rfl | rfl | rfl | rfl | rfl | rfl | rfl | rfl | rfl | rfl | rfl <;> decide
theorem mixed_in {c k m : Int} (h : 0 < m) : 0 ≤ mixed c k m ∧ mixed c k m < m := ⟨Int.emod_nonneg _ (by omega), Int.emod_lt_of_pos _ h⟩
def manyOf (c : Int) : Int := if c / 6 % 8 = 1 then 50 + c / 48 % 11 else if c / 6 % 4 = 2 then 6 + c / 48 % 44 else c % 6
theorem manyOf_in (c : Int) : 0 ≤ manyOf c ∧ manyOf c ≤ 60 := by
  unfold manyOf
  split
  · omega
  · split <;> omega
def ways12 : List Int := [0, 1, 2, 3, 4, 5, 6, 7, 8, 3, 6, 7]
def cnt9 : List Int := [2, 2, 3, 4, 5, 6, 7, 8, 9]
def wayOf (c below : Int) : Int := if below = 0 then c % 2 else ways12.getD (c % 12).toNat 0
def cntOf (c way : Int) : Int := if lo9.getD way.toNat 0 = 2 then cnt9.getD (mixed c 9 9).toNat 0 else lo9.getD way.toNat 0
def srcsOf (c below n : Int) : List Int :=
  let ss := (List.range n.toNat).map fun k : Nat => mixed (c / 12) k below
  if 0 < n ∧ c / 12 % 2 = 1 then ss.set 0 (below - 1) else ss
def gateBy (c below most : Int) : Gate := ⟨kinds9.getD (wayOf c below).toNat "", srcsOf c below (cntOf c (wayOf c below)), 1 + mixed c 10 most⟩
theorem ways12_in {k : Int} (h0 : 0 ≤ k) (h1 : k < 12) : 0 ≤ ways12.getD k.toNat 0 ∧ ways12.getD k.toNat 0 < 9 := by
  have h : k = 0 ∨ k = 1 ∨ k = 2 ∨ k = 3 ∨ k = 4 ∨ k = 5 ∨ k = 6 ∨ k = 7 ∨ k = 8 ∨ k = 9 ∨ k = 10 ∨ k = 11 := by omega
  rcases h with rfl | rfl | rfl | rfl | rfl | rfl | rfl | rfl | rfl | rfl | rfl | rfl <;> decide
theorem cnt9_in {k : Int} (h0 : 0 ≤ k) (h1 : k < 9) : 2 ≤ cnt9.getD k.toNat 0 ∧ cnt9.getD k.toNat 0 ≤ 9 := by
  have h : k = 0 ∨ k = 1 ∨ k = 2 ∨ k = 3 ∨ k = 4 ∨ k = 5 ∨ k = 6 ∨ k = 7 ∨ k = 8 := by omega
  rcases h with rfl | rfl | rfl | rfl | rfl | rfl | rfl | rfl | rfl <;> decide
theorem lo9_in' {k : Int} (h0 : 0 ≤ k) (h1 : k < 9) : 0 ≤ lo9.getD k.toNat 0 ∧ lo9.getD k.toNat 0 ≤ 3 ∧ (k < 2 → lo9.getD k.toNat 0 = 0) ∧ wantsM (kinds9.getD k.toNat "") = .ok (lo9.getD k.toNat 0, if lo9.getD k.toNat 0 = 2 then 9 else lo9.getD k.toNat 0) := by
  have h : k = 0 ∨ k = 1 ∨ k = 2 ∨ k = 3 ∨ k = 4 ∨ k = 5 ∨ k = 6 ∨ k = 7 ∨ k = 8 := by omega
  rcases h with rfl | rfl | rfl | rfl | rfl | rfl | rfl | rfl | rfl <;> exact ⟨by decide, by decide, by decide, rfl⟩
theorem wayOf_in (c : Int) {below : Int} : 0 ≤ wayOf c below ∧ wayOf c below < 9 ∧ (below = 0 → wayOf c below < 2) := by
  unfold wayOf
  split
  · omega
  · have := ways12_in (k := c % 12) (by omega) (by omega)
    exact ⟨this.1, this.2, fun h => by omega⟩
theorem cntOf_in (c : Int) {way : Int} (h0 : 0 ≤ way) (h1 : way < 9) : 0 ≤ cntOf c way ∧ cntOf c way ≤ 9 ∧ (way < 2 → cntOf c way = 0) ∧ (cntOf c way = lo9.getD way.toNat 0 ∨ (lo9.getD way.toNat 0 = 2 ∧ 2 ≤ cntOf c way)) := by
  have h2 := lo9_in' h0 h1
  have h3 := mixed_in (c := c) (k := 9) (m := 9) (by decide)
  have h4 := cnt9_in h3.1 h3.2
  unfold cntOf
  split
  · rename_i h
    refine ⟨by omega, by omega, fun hw => ?_, .inr ⟨h, by omega⟩⟩
    have := h2.2.2.1 hw; omega
  · exact ⟨h2.1, by omega, h2.2.2.1, .inl rfl⟩
theorem srcsOf_len (c below : Int) {n : Int} (h : 0 ≤ n) : ((srcsOf c below n).length : Int) = n := by
  unfold srcsOf
  simp only
  split <;> simp <;> omega
theorem srcsOf_in {c below n s : Int} (hb : 0 < below) (h : s ∈ srcsOf c below n) : 0 ≤ s ∧ s < below := by
  unfold srcsOf at h
  simp only at h
  have base : ∀ x, x ∈ (List.range n.toNat).map (fun k : Nat => mixed (c / 12) k below) → 0 ≤ x ∧ x < below := fun x hx => by
    obtain ⟨k, _, rfl⟩ := List.mem_map.mp hx
    exact mixed_in hb
  split at h
  · rcases List.mem_or_eq_of_mem_set h with h | rfl
    · exact base s h
    · omega
  · exact base s h
theorem kinds9_ok {k : Int} (h0 : 0 ≤ k) (h1 : k < 9) : PyData.strOk (kinds9.getD k.toNat "") = true := by
  have h : k = 0 ∨ k = 1 ∨ k = 2 ∨ k = 3 ∨ k = 4 ∨ k = 5 ∨ k = 6 ∨ k = 7 ∨ k = 8 := by omega
  rcases h with rfl | rfl | rfl | rfl | rfl | rfl | rfl | rfl | rfl <;> decide +kernel
/-- a drawn gate is right, its sources below -/
theorem gateBy_ok {c below most lines : Int} (hb : 0 ≤ below) (hl : below ≤ lines) (hm : 0 < most) (hm2 : most ≤ 60) : errGate (gateBy c below most) lines = none ∧ (∀ s ∈ (gateBy c below most).srcs, 0 ≤ s ∧ s < below) ∧ PyData.strOk (gateBy c below most).kind = true := by
  obtain ⟨w0, w1, w2⟩ := wayOf_in c (below := below)
  obtain ⟨c0, c1, c2, c3⟩ := cntOf_in c w0 w1
  obtain ⟨_, _, _, hw⟩ := lo9_in' w0 w1
  have hlen := srcsOf_len c below c0
  have hs : ∀ s ∈ (gateBy c below most).srcs, 0 ≤ s ∧ s < below := fun s h => by
    by_cases z : below = 0
    · have e : cntOf c (wayOf c below) = 0 := c2 (w2 z)
      have : (srcsOf c below (cntOf c (wayOf c below))).length = 0 := by omega
      rw [List.length_eq_zero_iff] at this
      have h' : s ∈ srcsOf c below (cntOf c (wayOf c below)) := h
      rw [this] at h'
      cases h'
    · exact srcsOf_in (by omega) h
  refine ⟨gate_err (lo := lo9.getD (wayOf c below).toNat 0) (hi := _) hw ?_ (fun s h => ⟨(hs s h).1, by have := (hs s h).2; omega⟩) ?_, hs, kinds9_ok w0 w1⟩
  · show lo9.getD (wayOf c below).toNat 0 ≤ ((srcsOf c below (cntOf c (wayOf c below))).length : Int) ∧ ((srcsOf c below (cntOf c (wayOf c below))).length : Int) ≤ _
    rw [hlen]
    have := (lo9_in' w0 w1).2.1
    split <;> omega
  · have := mixed_in (c := c) (k := 10) hm
    show 1 ≤ 1 + mixed c 10 most ∧ 1 + mixed c 10 most ≤ 60
    omega
def placeOf (k n t : Int) : Int := ((if t % 2 = 1 then n - 1 - k else k) + t / 2) % n
/-! the laws' gates, drawn one behind the other -/
def farGate (far many most k : Int) : Gate := if far % 8 = 4 ∨ many + k = 0 then gateBy (far / 8 + 5 * k) (many + k) most else ⟨"not", [many + k - 1], 1⟩
def farGates (far many most : Int) : Nat → List Gate
  | 0 => []
  | k + 1 => farGates far many most k ++ [farGate far many most k]
def addGates (many most : Int) : List Gate → List Int → List Gate
  | gs, [] => gs
  | gs, c :: cs => addGates many most (gs ++ [gateBy c (many + gs.length) most]) cs
def isFar (ns : List Int) : Prop := cell ns 1 % 8 = 1 ∨ cell ns 1 % 8 = 4
instance (ns : List Int) : Decidable (isFar ns) := by unfold isFar; infer_instance
def startGates (ns : List Int) (many most : Int) : List Gate := if isFar ns then farGates (cell ns 1) many most (60 + cell ns 1 / 8 % 131).toNat else []
def startCells (ns : List Int) : List Int := if isFar ns then (ns.drop 3).take 10 else (ns.drop 3).take 200
def gatesBy (ns : List Int) (many most : Int) : List Gate := addGates many most (startGates ns many most) (startCells ns)
theorem farGates_len (far many most : Int) : ∀ n, (farGates far many most n).length = n
  | 0 => rfl
  | n + 1 => by rw [farGates, List.length_append, farGates_len far many most n]; rfl
theorem addGates_snoc (many most c : Int) : ∀ (cs : List Int) (gs : List Gate), addGates many most gs (cs ++ [c]) = addGates many most gs cs ++ [gateBy c (many + (addGates many most gs cs).length) most]
  | [], gs => rfl
  | x :: cs, gs => by
    rw [List.cons_append, addGates, addGates]
    exact addGates_snoc many most c cs _
theorem addGates_len (many most : Int) : ∀ (cs : List Int) (gs : List Gate), (addGates many most gs cs).length = gs.length + cs.length
  | [], gs => rfl
  | x :: cs, gs => by
    rw [addGates, addGates_len many most cs, List.length_append, List.length_cons, List.length_cons, List.length_nil]
    omega
theorem startGates_len (ns : List Int) (many most : Int) : (startGates ns many most).length ≤ 190 := by
  unfold startGates
  split
  · rw [farGates_len]; omega
  · exact Nat.zero_le _
theorem startCells_len {ns : List Int} (h : ns.length ≤ 63) : (startCells ns).length ≤ 60 ∧ (startGates ns many most).length + (startCells ns).length ≤ 200 := by
  unfold startCells startGates
  split
  · rw [farGates_len, List.length_take, List.length_drop]; omega
  · rw [List.length_take, List.length_drop]
    simp; omega
theorem gatesBy_len {ns : List Int} {many most : Int} (h : ns.length ≤ 63) : (gatesBy ns many most).length ≤ 200 := by
  unfold gatesBy
  rw [addGates_len]
  exact (startCells_len h).2
/-! the laws turn a plan about -/
def invOf (i n t : Int) : Int := if t % 2 = 1 then n - 1 - (i - t / 2) % n else (i - t / 2) % n
def moved (many n t s : Int) : Int := if many ≤ s then many + placeOf (s - many) n t else s
def turnGate (many n t : Int) (g : Gate) : Gate := ⟨g.kind, g.srcs.map (moved many n t), g.delay⟩
def gate0 : Gate := ⟨"", [], 0⟩
def turnedM (many : Int) (gs : List Gate) (t : Int) : Plan := ⟨many, (List.range gs.length).map fun i : Nat => turnGate many gs.length t (gs.getD (invOf i gs.length t).toNat gate0)⟩
theorem placeOf_in {k n t : Int} (h : 0 < n) : 0 ≤ placeOf k n t ∧ placeOf k n t < n := ⟨Int.emod_nonneg _ (by omega), Int.emod_lt_of_pos _ h⟩
theorem invOf_in {i n t : Int} (h : 0 < n) : 0 ≤ invOf i n t ∧ invOf i n t < n := by
  have h1 := Int.emod_nonneg (i - t / 2) (show n ≠ 0 by omega)
  have h2 := Int.emod_lt_of_pos (i - t / 2) h
  unfold invOf
  split <;> omega
theorem place_inv {i n t : Int} (h0 : 0 ≤ i) (h1 : i < n) : placeOf (invOf i n t) n t = i := by
  have e : (if t % 2 = 1 then n - 1 - invOf i n t else invOf i n t) = (i - t / 2) % n := by
    unfold invOf
    by_cases c : t % 2 = 1
    · simp only [if_pos c]; omega
    · simp only [if_neg c]
  unfold placeOf
  rw [e, Int.emod_add_emod, show i - t / 2 + t / 2 = i by omega]
  exact Int.emod_eq_of_lt h0 h1
theorem inv_place {k n t : Int} (h0 : 0 ≤ k) (h1 : k < n) : invOf (placeOf k n t) n t = k := by
  have e : ∀ k' : Int, 0 ≤ k' → k' < n → ((k' + t / 2) % n - t / 2) % n = k' := fun k' a b => by
    rw [Int.sub_eq_add_neg, Int.emod_add_emod, show k' + t / 2 + -(t / 2) = k' by omega]
    exact Int.emod_eq_of_lt a b
  unfold invOf placeOf
  by_cases c : t % 2 = 1
  · simp only [if_pos c]
    rw [e (n - 1 - k) (by omega) (by omega)]
    omega
  · simp only [if_neg c]
    exact e k h0 h1

/-! ### the laws' plans without a ring -/
structure GoodAt (many : Int) (i : Nat) (g : Gate) : Prop where
  ok : ∀ lines, many + i ≤ lines → errGate g lines = none
  lo : ∀ s ∈ g.srcs, 0 ≤ s ∧ s < many + i
  str : PyData.strOk g.kind = true
def Good (many : Int) (gs : List Gate) : Prop := ∀ (i : Nat) g, gs[i]? = some g → GoodAt many i g
theorem good_nil (many : Int) : Good many [] := fun i g h => by simp at h
theorem good_snoc {many : Int} {gs : List Gate} {g : Gate} (h : Good many gs) (hg : GoodAt many gs.length g) : Good many (gs ++ [g]) := fun i x hx => by
  by_cases c : i < gs.length
  · rw [List.getElem?_append_left c] at hx
    exact h i x hx
  · rw [List.getElem?_append_right (by omega)] at hx
    have e : i - gs.length = 0 := by
      have := (List.getElem?_eq_some_iff.mp hx).1
      simp at this; omega
    have e2 : i = gs.length := by omega
    rw [e] at hx
    simp at hx
    subst hx
    rw [e2]; exact hg
theorem good_gateBy {c many most : Int} {i : Nat} (hm : 0 ≤ many) (h0 : 0 < most) (h1 : most ≤ 60) : GoodAt many i (gateBy c (many + i) most) := by
  have q := fun lines h => gateBy_ok (c := c) (below := many + i) (most := most) (lines := lines) (by omega) h h0 h1
  exact ⟨fun lines h => (q lines h).1, (q _ (Int.le_refl _)).2.1, (q _ (Int.le_refl _)).2.2⟩
theorem good_not {many d : Int} {i : Nat} (hm : 0 ≤ many) (h : many + i ≠ 0) (hd : 1 ≤ d ∧ d ≤ 60) : GoodAt many i ⟨"not", [many + i - 1], d⟩ := by
  refine ⟨fun lines hl => gate_err (lo := 1) (hi := 1) rfl ⟨by show (1:Int) ≤ ((1:Nat):Int); decide, by show ((1:Nat):Int) ≤ 1; decide⟩ (fun s hs => ?_) hd, fun s hs => ?_, by show PyData.strOk "not" = true; decide +kernel⟩
  · rcases List.mem_singleton.mp hs with rfl; omega
  · rcases List.mem_singleton.mp hs with rfl; omega
theorem good_far {far many most : Int} (hm : 0 ≤ many) (h0 : 0 < most) (h1 : most ≤ 60) : ∀ n, Good many (farGates far many most n)
  | 0 => good_nil many
  | n + 1 => by
    rw [farGates]
    refine good_snoc (good_far hm h0 h1 n) ?_
    rw [farGates_len]
    unfold farGate
    split
    · exact good_gateBy hm h0 h1
    · rename_i c
      exact good_not hm (fun h => c (.inr h)) (by omega)
theorem good_add {many most : Int} (hm : 0 ≤ many) (h0 : 0 < most) (h1 : most ≤ 60) : ∀ (cs : List Int) (gs : List Gate), Good many gs → Good many (addGates many most gs cs)
  | [], gs, h => h
  | c :: cs, gs, h => by
    rw [addGates]
    exact good_add hm h0 h1 cs _ (good_snoc h (good_gateBy hm h0 h1))
theorem good_gatesBy {ns : List Int} {many most : Int} (hm : 0 ≤ many) (h0 : 0 < most) (h1 : most ≤ 60) : Good many (gatesBy ns many most) := by
  unfold gatesBy startGates
  refine good_add hm h0 h1 _ _ ?_
  split
  · exact good_far hm h0 h1 _
  · exact good_nil many
theorem good_short {many : Int} {gs : List Gate} (h : Good many gs) : ∀ x ∈ gs, x.srcs.length ≤ 9 := fun x hx => by
  obtain ⟨i, hi1, hi2⟩ := List.getElem_of_mem hx
  have q := h i x (by rw [List.getElem?_eq_getElem hi1, hi2])
  obtain ⟨⟨lo, hi, hw, hlo, hhi⟩, _⟩ := gate_ok (q.ok _ (Int.le_refl _))
  have := wants_le hw
  omega
theorem turned_get {many t : Int} {gs : List Gate} {i : Nat} {g : Gate} (h : (turnedM many gs t).gates[i]? = some g) : ∃ (k : Nat) (x : Gate), gs[k]? = some x ∧ (k : Int) = invOf i gs.length t ∧ g = turnGate many gs.length t x ∧ i < gs.length := by
  have hi : i < gs.length := by
    have := (List.getElem?_eq_some_iff.mp h).1
    unfold turnedM at this
    simpa using this
  have hn : (0 : Int) < gs.length := by omega
  obtain ⟨k0, k1⟩ := invOf_in (i := (i : Int)) (t := t) hn
  have hk : (invOf i gs.length t).toNat < gs.length := by omega
  refine ⟨(invOf i gs.length t).toNat, gs[(invOf i gs.length t).toNat], List.getElem?_eq_getElem hk, by omega, ?_, hi⟩
  unfold turnedM at h
  rw [List.getElem?_map, List.getElem?_range hi] at h
  simp only [Option.map_some, Option.some.injEq] at h
  rw [← h, List.getD_eq_getElem?_getD, List.getElem?_eq_getElem hk]
  rfl
theorem turned_lines (many t : Int) (gs : List Gate) : (turnedM many gs t).lines = many + gs.length := by
  unfold Plan.lines turnedM
  simp
theorem turned_len (many t : Int) (gs : List Gate) : (turnedM many gs t).gates.length = gs.length := by
  unfold turnedM
  simp
theorem moved_in {many n t s : Int} (hn : 0 < n) (h0 : 0 ≤ s) (h1 : s < many + n) (hm : 0 ≤ many) : 0 ≤ moved many n t s ∧ moved many n t s < many + n := by
  unfold moved
  split
  · have := placeOf_in (k := s - many) (t := t) hn
    omega
  · omega
theorem turned_gate {many t lines : Int} {n i : Nat} {g : Gate} (hm : 0 ≤ many) (h : GoodAt many i g) (hi : i < n) (hl : many + n ≤ lines) : errGate (turnGate many n t g) lines = none := by
  obtain ⟨⟨lo, hi', hw, hlo, hhi⟩, _, hd⟩ := gate_ok (h.ok _ (Int.le_refl _))
  refine gate_err (lo := lo) (hi := hi') hw (by unfold turnGate; simp only [List.length_map]; exact ⟨hlo, hhi⟩) (fun s hs => ?_) hd
  obtain ⟨s', hs', rfl⟩ := List.mem_map.mp hs
  have := h.lo s' hs'
  have := moved_in (many := many) (n := n) (t := t) (s := s') (by omega) (by omega) (by omega) hm
  omega
theorem turned_valid {many t : Int} {gs : List Gate} (hm : 0 ≤ many) (hm2 : many ≤ 60) (hl : gs.length ≤ 200) (h : Good many gs) : Valid (turnedM many gs t) := by
  refine ⟨hm, hm2, by rw [turned_len]; exact hl, fun g hg => ?_⟩
  obtain ⟨i, hi1, hi2⟩ := List.getElem_of_mem hg
  obtain ⟨k, x, hk, _, rfl, _⟩ := turned_get (i := i) (by rw [List.getElem?_eq_getElem hi1, hi2])
  exact turned_gate hm (h k x hk) (List.getElem?_eq_some_iff.mp hk).1 (by rw [turned_lines]; omega)
theorem turned_free {many t : Int} {gs : List Gate} (hm : 0 ≤ many) (h : Good many gs) : Free (turnedM many gs t) := by
  refine ⟨fun l => if l < many then 0 else (invOf (l - many) gs.length t).toNat + 1, fun i g hg s hs => ?_⟩
  obtain ⟨k, x, hk, hki, rfl, hi⟩ := turned_get hg
  obtain ⟨s', hs', rfl⟩ := List.mem_map.mp hs
  have hlo := (h k x hk).lo s' hs'
  have hkl := (List.getElem?_eq_some_iff.mp hk).1
  have e1 : ¬ ((turnedM many gs t).many + (i : Int) < many) := by show ¬ (many + (i : Int) < many); omega
  have e2 : (turnedM many gs t).many + (i : Int) - many = i := by show many + (i : Int) - many = i; omega
  simp only [if_neg e1, e2, ← hki]
  unfold moved
  by_cases c : many ≤ s'
  · rw [if_pos c]
    have hp := placeOf_in (k := s' - many) (t := t) (show (0 : Int) < gs.length by omega)
    rw [if_neg (by omega), show many + placeOf (s' - many) gs.length t - many = placeOf (s' - many) gs.length t by omega, inv_place (by omega) (by omega)]
    omega
  · rw [if_neg c, if_pos (by omega)]
    omega
theorem turned_str {many t : Int} {gs : List Gate} (h : Good many gs) : ∀ g ∈ (turnedM many gs t).gates, PyData.strOk g.kind = true := fun g hg => by
  obtain ⟨i, hi1, hi2⟩ := List.getElem_of_mem hg
  obtain ⟨k, x, hk, _, rfl, _⟩ := turned_get (i := i) (by rw [List.getElem?_eq_getElem hi1, hi2])
  exact (h k x hk).str
def freePlan (ns : List Int) (most : Int) : Plan := turnedM (manyOf (cell ns 0)) (gatesBy ns (manyOf (cell ns 0)) most) (cell ns 2)
theorem free_ok {ns : List Int} {most : Int} (hn : ns.length ≤ 63) (h0 : 0 < most) (h1 : most ≤ 60) : Valid (freePlan ns most) ∧ Free (freePlan ns most) ∧ ∀ g ∈ (freePlan ns most).gates, PyData.strOk g.kind = true := by
  obtain ⟨m0, m1⟩ := manyOf_in (cell ns 0)
  have hg := good_gatesBy (ns := ns) (most := most) m0 h0 h1
  exact ⟨turned_valid m0 m1 (gatesBy_len hn) hg, turned_free m0 hg, turned_str hg⟩

/-! ### late times -/
def gateN (p : Plan) (l : Int) : Gate := p.gates.getD (l - p.many).toNat ⟨"", [], 0⟩
/-- what a line's number is, by the others' -/
def dueOf (p : Plan) (ts : List Int) (l : Int) : Int :=
  if (gateN p l).srcs = [] then 0 else (gateN p l).delay + maxOr 0 ((gateN p l).srcs.map fun s => ts.getD s.toNat 0)
def lateStep (p : Plan) (ts : List Int) (l : Int) : List Int := if (gateN p l).srcs = [] then ts else ts.set l.toNat (dueOf p ts l)
def lateBy (p : Plan) (ls : List Int) : List Int := ls.foldl (lateStep p) (List.replicate p.lines.toNat 0)
def lateM (p : Plan) : Except Err (List Int) := match orderM p with
  | .error e => .error e
  | .ok f => .ok (lateBy p f)
theorem lateBy_snoc (p : Plan) (ls : List Int) (l : Int) : lateBy p (ls ++ [l]) = lateStep p (lateBy p ls) l := by
  unfold lateBy; rw [List.foldl_append]; rfl
theorem lateStep_len (p : Plan) (ts : List Int) (l : Int) : (lateStep p ts l).length = ts.length := by
  unfold lateStep
  split
  · rfl
  · exact List.length_set
theorem lateF_len (p : Plan) : ∀ (ls ts : List Int), (ls.foldl (lateStep p) ts).length = ts.length := fun ls => by
  induction ls with
  | nil => intro ts; rfl
  | cons l r ih => intro ts; rw [List.foldl_cons, ih, lateStep_len]
theorem lateBy_len (p : Plan) (ls : List Int) : (lateBy p ls).length = p.lines.toNat := by
  unfold lateBy
  rw [lateF_len, List.length_replicate]
theorem getD_set_ne {α : Type} {d : List α} {i j : Nat} {b x : α} (h : i ≠ j) : (d.set i b).getD j x = d.getD j x := by
  rw [List.getD_eq_getElem?_getD, List.getElem?_set, if_neg h, ← List.getD_eq_getElem?_getD]
theorem getD_set_eq {α : Type} {d : List α} {i : Nat} {b x : α} (h : i < d.length) : (d.set i b).getD i x = b := by
  rw [List.getD_eq_getElem?_getD, List.getElem?_set]; simp [h]
theorem lateF_keep (p : Plan) (k : Nat) : ∀ (ls ts : List Int), (∀ l ∈ ls, l.toNat ≠ k) → (ls.foldl (lateStep p) ts).getD k 0 = ts.getD k 0
  | [], _, _ => rfl
  | l :: r, ts, h => by
    rw [List.foldl_cons, lateF_keep p k r _ fun x hx => h x (List.mem_cons_of_mem _ hx)]
    unfold lateStep
    split
    · rfl
    · exact getD_set_ne (h l List.mem_cons_self)
theorem replicate_getD (n k : Nat) : (List.replicate n (0 : Int)).getD k 0 = 0 := by
  rw [List.getD_eq_getElem?_getD, List.getElem?_replicate]
  split <;> rfl
/-! a plan's order, told -/
theorem order_ok {p : Plan} {f : List Int} (h : orderM p = .ok f) : Valid p ∧ f = (goneM p).1 ∧ (goneM p).1.length = p.gates.length := by
  unfold orderM at h
  cases e : errPlan p with
  | some x => rw [e] at h; cases h
  | none =>
    rw [e] at h
    have v := valid_iff.mp e
    by_cases c : (goneM p).1.length < p.gates.length
    · simp only [if_pos c] at h; cases h
    · simp only [if_neg c] at h
      cases h
      obtain ⟨gi, _⟩ := gone_inv v.m0
      exact ⟨v, rfl, by have := gi.cnt; omega⟩
theorem cntF_zero' : ∀ {d : List Bool}, cntF d = 0 → ∀ i, i < d.length → d.getD i false = true
  | [], _, i, h => by simp at h
  | b :: r, h, i, hi => by
    cases b with
    | false => simp [cntF] at h
    | true =>
      cases i with
      | zero => rfl
      | succ i => exact cntF_zero' (d := r) (by simpa [cntF] using h) i (by simpa using hi)
/-- all gates' lines stand in it, once -/
theorem order_mem {p : Plan} {f : List Int} (h : orderM p = .ok f) : f.Nodup ∧ ∀ l : Int, l ∈ f ↔ p.many ≤ l ∧ l < p.lines := by
  obtain ⟨v, rfl, hl⟩ := order_ok h
  obtain ⟨gi, _⟩ := gone_inv v.m0
  refine ⟨gi.nd, fun l => ?_⟩
  rw [gi.fnd l]
  constructor
  · exact fun ⟨a, b, _⟩ => ⟨a, b⟩
  · rintro ⟨a, b⟩
    refine ⟨a, b, cntF_zero' (by have := gi.cnt; omega) _ ?_⟩
    have := gi.len
    have := v.m0
    omega
theorem doneBy_get {p : Plan} {s : Int} (h0 : 0 ≤ s) : ∀ (ls : List Int) (d : List Bool), (∀ l ∈ ls, 0 ≤ l) → (doneBy d ls).getD s.toNat false = true → d.getD s.toNat false = true ∨ s ∈ ls
  | [], _, _, h => .inl h
  | l :: r, d, hp, h => by
    have l0 := hp l List.mem_cons_self
    rcases doneBy_get (p := p) h0 r (d.set l.toNat true) (fun x hx => hp x (List.mem_cons_of_mem _ hx)) h with q | q
    · by_cases c : l.toNat = s.toNat
      · exact .inr (by rw [show s = l by omega]; exact List.mem_cons_self)
      · exact .inl (by rw [getD_set_ne c] at q; exact q)
    · exact .inr (List.mem_cons_of_mem _ q)
/-- each line's sources are inputs or stand ahead of it -/
theorem order_srcs {p : Plan} {f : List Int} (h : orderM p = .ok f) {i : Nat} {l : Int} (hl : f[i]? = some l) : ∀ s ∈ (gateN p l).srcs, 0 ≤ s ∧ s < p.lines ∧ (s < p.many ∨ s ∈ f.take i) := by
  obtain ⟨v, rfl, _⟩ := order_ok h
  obtain ⟨gi, _⟩ := gone_inv v.m0
  obtain ⟨j, g, hg, e, _, hs⟩ := ready_some (gone_steps p i l hl)
  intro s hss
  have eg : gateN p l = g := by
    unfold gateN
    rw [List.getD_eq_getElem?_getD, show (l - p.many).toNat = j by omega, hg]; rfl
  rw [eg] at hss
  obtain ⟨_, hsr, _⟩ := gate_ok (v.gate g (List.mem_of_getElem? hg))
  obtain ⟨s0, s1⟩ := hsr s hss
  refine ⟨s0, s1, ?_⟩
  rcases doneBy_get (p := p) s0 _ _ (fun x hx => by have := ((gi.fnd x).mp (List.mem_of_mem_take hx)).1; have := v.m0; omega) (okSrcs_iff.mp hs s hss) with q | q
  · rw [done0_get (by omega)] at q
    have := of_decide_eq_true q
    left; omega
  · exact .inr q
/-- what late tells -/
theorem late_law {p : Plan} {f : List Int} (h : orderM p = .ok f) {l : Int} (l0 : 0 ≤ l) (l1 : l < p.lines) : (lateBy p f).getD l.toNat 0 = if l < p.many then 0 else dueOf p (lateBy p f) l := by
  obtain ⟨v, hf, _⟩ := order_ok h
  obtain ⟨nd, hm⟩ := order_mem h
  have m0 := v.m0
  have pos : ∀ x ∈ f, 0 ≤ x := fun x hx => by have := ((hm x).mp hx).1; omega
  by_cases c : l < p.many
  · rw [if_pos c]
    unfold lateBy
    rw [lateF_keep p _ f _ fun x hx => by have := ((hm x).mp hx).1; omega, replicate_getD]
  · rw [if_neg c]
    obtain ⟨i, hi, hil⟩ := List.getElem_of_mem ((hm l).mpr ⟨by omega, l1⟩)
    have hl : f[i]? = some l := by rw [List.getElem?_eq_getElem hi, hil]
    have hsp : f = f.take i ++ l :: f.drop (i + 1) := by
      have : f.drop i = l :: f.drop (i + 1) := by rw [List.drop_eq_getElem_cons hi, hil]
      rw [← this, List.take_append_drop]
    have nd2 := nd
    rw [hsp, List.nodup_append] at nd2
    obtain ⟨_, nd3, nd4⟩ := nd2
    obtain ⟨nd5, _⟩ := List.nodup_cons.mp nd3
    have e1 : lateBy p f = (f.drop (i + 1)).foldl (lateStep p) (lateStep p (lateBy p (f.take i)) l) := by
      conv => lhs; rw [hsp]
      unfold lateBy
      rw [List.foldl_append, List.foldl_cons]
    have restd : ∀ x ∈ f.drop (i + 1), 0 ≤ x := fun x hx => pos x (List.mem_of_mem_drop hx)
    have k1 : (lateBy p f).getD l.toNat 0 = (lateStep p (lateBy p (f.take i)) l).getD l.toNat 0 := by
      rw [e1]
      exact lateF_keep p _ _ _ fun x hx hxe => nd5 (by have := restd x hx; rw [show l = x by omega]; exact hx)
    have k0 : (lateBy p (f.take i)).getD l.toNat 0 = 0 := by
      unfold lateBy
      rw [lateF_keep p _ (f.take i) _ fun x hx hxe => ?_, replicate_getD]
      have := pos x (List.mem_of_mem_take hx)
      exact nd4 x hx l List.mem_cons_self (by omega)
    have hsr := order_srcs h hl
    have ks : ∀ s ∈ (gateN p l).srcs, (lateBy p f).getD s.toNat 0 = (lateBy p (f.take i)).getD s.toNat 0 := fun s hs => by
      obtain ⟨s0, s1, hd⟩ := hsr s hs
      have ns : ∀ x ∈ l :: f.drop (i + 1), x.toNat ≠ s.toNat := fun x hx hxe => by
        have x0 : 0 ≤ x := by
          rcases List.mem_cons.mp hx with rfl | hx
          · exact l0
          · exact restd x hx
        rcases hd with hd | hd
        · have : p.many ≤ x := by
            rcases List.mem_cons.mp hx with rfl | hx
            · omega
            · exact ((hm x).mp (List.mem_of_mem_drop hx)).1
          omega
        · exact nd4 s hd x hx (by omega)
      rw [e1, ← List.foldl_cons (f := lateStep p)]
      exact lateF_keep p _ _ _ ns
    have kd : dueOf p (lateBy p f) l = dueOf p (lateBy p (f.take i)) l := by
      unfold dueOf
      rw [List.map_congr_left ks]
    rw [k1, kd]
    unfold lateStep
    by_cases c2 : (gateN p l).srcs = []
    · rw [if_pos c2, k0]
      unfold dueOf
      rw [if_pos c2]
    · rw [if_neg c2, getD_set_eq]
      rw [lateBy_len]; omega
theorem maxOr_ge : ∀ {ns : List Int}, (∀ y ∈ ns, 0 ≤ y) → 0 ≤ maxOr 0 ns
  | [], _ => Int.le_refl _
  | n :: r, h => h _ (maxOr_spec (n := n) r).1
theorem lateF_pos {p : Plan} (hd : ∀ g ∈ p.gates, 0 ≤ g.delay) : ∀ (ls ts : List Int), (∀ y ∈ ts, 0 ≤ y) → ∀ y ∈ ls.foldl (lateStep p) ts, 0 ≤ y
  | [], _, h => h
  | l :: r, ts, h => by
    refine lateF_pos hd r _ fun y hy => ?_
    unfold lateStep at hy
    split at hy
    · exact h y hy
    · rcases List.mem_or_eq_of_mem_set hy with hy | rfl
      · exact h y hy
      · unfold dueOf
        rename_i c
        rw [if_neg c]
        have h1 : 0 ≤ (gateN p l).delay := by
          unfold gateN
          rw [List.getD_eq_getElem?_getD]
          cases e : p.gates[(l - p.many).toNat]? with
          | none => exact Int.le_refl _
          | some g => exact hd g (List.mem_of_getElem? e)
        have h2 : 0 ≤ maxOr 0 ((gateN p l).srcs.map fun s => ts.getD s.toNat 0) := maxOr_ge fun y hy => by
          obtain ⟨s, _, rfl⟩ := List.mem_map.mp hy
          rw [List.getD_eq_getElem?_getD]
          cases e : ts[s.toNat]? with
          | none => exact Int.le_refl _
          | some g => exact h g (List.mem_of_getElem? e)
        omega
theorem late_pos {p : Plan} (v : Valid p) (f : List Int) : ∀ y ∈ lateBy p f, 0 ≤ y :=
  lateF_pos (fun g hg => by obtain ⟨_, _, h, _⟩ := gate_ok (v.gate g hg); omega) f _ fun y hy => by rw [List.eq_of_mem_replicate hy]; exact Int.le_refl _
def mx2 (i j : Int) : Int := if j > i then j else i
theorem mx2_fold : ∀ (ns : List Int) (a : Int), (ns.foldl mx2 a = a ∨ ns.foldl mx2 a ∈ ns) ∧ a ≤ ns.foldl mx2 a ∧ ∀ y ∈ ns, y ≤ ns.foldl mx2 a
  | [], a => ⟨.inl rfl, Int.le_refl _, fun y hy => by cases hy⟩
  | n :: r, a => by
    rw [List.foldl_cons]
    obtain ⟨h1, h2, h3⟩ := mx2_fold r (mx2 a n)
    have k : mx2 a n = a ∨ mx2 a n = n := by unfold mx2; split <;> simp
    have k1 : a ≤ mx2 a n := by unfold mx2; split <;> omega
    have k2 : n ≤ mx2 a n := by unfold mx2; split <;> omega
    refine ⟨?_, by omega, fun y hy => ?_⟩
    · rcases h1 with h1 | h1
      · rcases k with k | k
        · left; omega
        · right; rw [h1, k]; exact List.mem_cons_self
      · right; exact List.mem_cons_of_mem _ h1
    · rcases List.mem_cons.mp hy with rfl | hy
      · omega
      · exact h3 y hy
theorem mx2_max {ns : List Int} (h : ∀ y ∈ ns, 0 ≤ y) : ns.foldl mx2 0 = maxOr 0 ns := by
  cases ns with
  | nil => rfl
  | cons n r =>
    obtain ⟨h1, h2, h3⟩ := mx2_fold (n :: r) 0
    refine maxOr_un ?_ h3
    rcases h1 with h1 | h1
    · have := h3 n List.mem_cons_self
      have := h n List.mem_cons_self
      have e : (n :: r).foldl mx2 0 = n := by omega
      rw [e]; exact List.mem_cons_self
    · exact h1

/-! ### try, except -/
def rIsX (K : PySem.W.Frag) (cls : Value) (d : Option Addr) (a : Addr) : List V → Hp → VK → Prop := fun xs H Q => ∃ C, cls = .ref C ∧ d = none ∧ ExcC K C ∧ rIsE K C a xs H Q
theorem call_isX (K : PySem.W.Frag) {X : Cx} {a : Addr} {cls : Value} {d : Option Addr} {oe : Obj} {pn : List (Addr × Obj)} (hz : Zc cls d oe) (hf : ∃ vs, oe.data = .fields vs) (h : X.K = K := by rfl) : CallR (X.suite a ((a, oe) :: pn)) (.builtin "isinstance") (rIsX K cls d a) := by
  subst h
  intro pins s σ H xs us Q I r h
  obtain ⟨C, rfl, rfl, hC, h⟩ := h
  exact call_isE hC hz hf pins s σ H xs us Q I r h
section
variable {K : PySem.W.Frag} {σ : L2.St} {G H : Hp} {ta tb te tl : TE} {t : TT} {v : V} {D : Ends} {tu tw tz : TS} {ts : Addr → Value → Option Addr → TS} {i : Nat} {W : WX} {tB : WX → TS} {c cls : Value} {d : Option Addr} {a C : Addr} {b : Bool}
theorem ev_isX (ha : Ev ta σ G (.ref a)) (hb : Ev tb σ G v) (hC : ExcC K C) (hv : ∀ u, RelV v u → u = c) (hk : PySem.W.kitOne K (.ref C) c = some b) : Ev (tCB (rIsX K (.ref C) none a) (tCons ta (tCons tb tNil))) σ G (.bl b) := fun H e Q q =>
  ha H e _ fun H1 e1 => hb H1 (e.trans e1) _ fun H2 e2 => ⟨C, rfl, rfl, hC, v, c, b, rfl, hv, hk, q H2 (e1.trans e2)⟩
theorem go_tryO (h : Go (tB (wOnly K c ts W { D with nx := tz D })) { D with nx := tz D } σ G) : Go (tSeq (fun D σ H => tB (wOnly K c ts W D) D σ H) tz) D σ G := h
theorem go_tryA (h : Go (tB (wAs K c i ts W { D with nx := tz D })) { D with nx := tz D } σ G) : Go (tSeq (fun D σ H => tB (wAs K c i ts W D) D σ H) tz) D σ G := h
/-- the clause takes it -/
theorem wo_hit (h : PySem.W.exmOne K cls c = some true) (e : Ex G H) (k : ∀ a, G a = none → Go (ts a cls d) D σ G) : wOnly K c ts W D cls d σ H :=
  ⟨true, h, fun _ a ha => k a (e.none ha) H e, fun z => (by cases z)⟩
theorem wo_miss (h : PySem.W.exmOne K cls c = some false) (k : W cls d σ H) : wOnly K c ts W D cls d σ H := ⟨false, h, fun z => (by cases z), fun _ => k⟩
theorem wa_hit (h : PySem.W.exmOne K cls c = some true) (e : Ex G H) (k : ∀ a, G a = none → Go (ts a cls d) { nx := fun σ' H' => D.nx (σ'.set i none) H', rt := D.rt, bk := fun σ' H' => D.bk (σ'.set i none) H', ct := fun σ' H' => D.ct (σ'.set i none) H' } (σ.set i (some (.ref a))) G) : wAs K c i ts W D cls d σ H :=
  ⟨true, h, fun _ a ha => k a (e.none ha) H e, fun z => (by cases z)⟩
end
theorem exm_of {K : PySem.W.Frag} {C S : Addr} {b : Bool} (h1 : PySem.W.subIn K (.ref S) (.type "BaseException") = some true) (h2 : PySem.W.isClsIn K S = true) (h3 : PySem.W.typeIn K (.ref S) = some (.type "type")) (h4 : PySem.W.subIn K (.ref C) (.ref S) = some b) :
    PySem.W.exmOne K (.ref C) (.ref S) = some b := by
  have e1 : (PySem.W.subIn K (.ref S) (.type "BaseException") == some true) = true := by rw [h1] <;> rfl
  have e2 : ((PySem.W.clsIn K S).isSome && PySem.W.typeIn K (.ref S) == some (.type "type")) = true := by
    have h2' : (PySem.W.clsIn K S).isSome = true := h2
    rw [h2', h3] <;> rfl
  show (if (PySem.W.subIn K (.ref S) (.type "BaseException") == some true) = true then (if ((PySem.W.clsIn K S).isSome && PySem.W.typeIn K (.ref S) == some (.type "type")) = true then PySem.W.subIn K (.ref C) (.ref S) else none) else none) = some b
  rw [if_pos e1, if_pos e2]
  exact h4
theorem kit_ref {K : PySem.W.Frag} {C S : Addr} {b : Bool} (h2 : PySem.W.isClsIn K S = true) (h3 : PySem.W.typeIn K (.ref S) = some (.type "type")) (h4 : PySem.W.subIn K (.ref C) (.ref S) = some b) (hb : (Value.ref C == Value.ref S) = true → b = true) :
    PySem.W.kitOne K (.ref C) (.ref S) = some b := by
  unfold PySem.W.kitOne
  split
  · rename_i h; rw [hb h]
  · have h2' : (PySem.W.clsIn K S).isSome = true := h2
    show (if ((PySem.W.clsIn K S).isSome && PySem.W.typeIn K (.ref S) == some (.type "type")) = true then PySem.W.subIn K (.ref C) (.ref S) else none) = some b
    rw [if_pos (by rw [h2', h3] <;> rfl)]
    exact h4
theorem kit_ve {K : PySem.W.Frag} {C : Addr} {b : Bool} (h4 : PySem.W.subIn K (.ref C) (.type "ValueError") = some b) : PySem.W.kitOne K (.ref C) (.type "ValueError") = some b := by
  unfold PySem.W.kitOne
  split
  · rename_i h; cases h
  · show (if PySem.W.kitMeta "ValueError" = true then PySem.W.subIn K (.ref C) (.type "ValueError") else none) = some b
    rw [if_pos (by decide +kernel)]
    exact h4
section
variable {σ : L2.St} {G : Hp} {ta : TE} {D' : Ends} {tz : TS} {i : Nat} {rt : VK} {bk ct : L2.St → Hp → Prop} {k : Bool}
theorem go_upA (h : Go tz D' (σ.set i none) G) : Go tNext ⟨fun σ' H' => tz D' (σ'.set i none) H', rt, bk, ct⟩ σ G := h
theorem ev_intB (h : Ev ta σ G (.bl k)) : Ev (tCB rInt1 (tCons ta tNil)) σ G (.int (if k then 1 else 0)) := fun H e Q q => h H e _ fun H1 e1 => .inr ⟨k, rfl, q H1 e1⟩
end
theorem go_raw {ts tz : TS} {D : Ends} {σ : L2.St} {G : Hp} (h : ∀ H, Ex G H → ts { D with nx := tz D } σ H) : Go (tSeq ts tz) D σ G := h
theorem Go.app {ts : TS} {D : Ends} {σ : L2.St} {G H : Hp} (h : Go ts D σ G) (e : Ex G H) : ts D σ H := h H e
section
variable {K : PySem.W.Frag} {σ : L2.St} {G : Hp} {ta tb : TE} {tA : TA} {sp : Sp} {E : L2.St → XK} {z : V} {xs ys : List V}
theorem ev_callP {A : List V → Hp → Prop} (h : EvAP tA σ G A) (hs : ∀ vs G', Ex G G' → A vs G' → SpV sp vs G' z) : Ev (tCallS sp E tA) σ G z := fun H e Q q =>
  h H e _ fun vs G1 H1 g1 g2 e1 p => hs vs G1 g1 p H1 g2 Q (fun H2 e2 => q H2 (e1.trans e2)) (E σ)
theorem eap_LL (h : EvL ta σ G xs) (h2 : EvL tb σ G ys) : EvAP (tCons ta (tCons tb tNil)) σ G fun vs G' => ∃ p q, vs = [.ref p, .ref q] ∧ G' p = some (.lst xs) ∧ G' q = some (.lst ys) := fun H e Q q =>
  h H e _ fun p H1 _ e1 h1 => h2 H1 (e.trans e1) _ fun p2 H2 _ e2 k2 => q [.ref p, .ref p2] H2 H2 ((e.trans e1).trans e2) (Ex.refl _) (e1.trans e2) ⟨p, p2, rfl, e2 _ _ h1, k2⟩
end

/-! ### comprehensions whose elements are made on the way -/
def Cp {β : Type} (H : Hp) (R : Hp → V → β → Prop) (bs : List β) (Dl : Addr) (i : Nat) (H' : Hp) : Prop := H Dl = none ∧ Ex H H' ∧ ∃ ws, H' Dl = some (.lst ws) ∧ Rows (R H') ws (bs.take i)
/-- what is said of the elements lasts: while the heap grows, while lists change -/
structure Lasts {β : Type} (R : Hp → V → β → Prop) : Prop where
  mono : ∀ v b H H', Ex H H' → R H v b → R H' v b
  put : ∀ v b H l ys o, H l = some (.lst ys) → R H v b → R (upd H l o) v b
section
variable {β : Type} {K : PySem.W.Frag} {σ : L2.St} {G H : Hp} {ta te tl : TE} {j : Nat} {vs : List Nat} {R : Hp → V → β → Prop} {bs : List β}
theorem cp_turn (L : Lasts R) {H' : Hp} {Dl : Addr} {i : Nat} {b : β} {σ2 : L2.St} (p : Cp H R bs Dl i H') (hi : bs[i]? = some b) (hz : bs.length ≤ 40000) (he : EvP te σ2 H fun v G' => R G' v b) :
    tYes σ2 H' fun b H3 => if b = true then te σ2 H3 fun y H4 => ∃ acc, H4 Dl = some (.lst acc) ∧ acc.length < sizeLine ∧ Cp H R bs Dl (i + 1) (upd H4 Dl (.lst (acc ++ [y]))) else Cp H R bs Dl (i + 1) H3 := by
  obtain ⟨p1, p2, ws, p3, p4⟩ := p
  show te σ2 H' fun y H4 => ∃ acc, H4 Dl = some (.lst acc) ∧ acc.length < sizeLine ∧ Cp H R bs Dl (i + 1) (upd H4 Dl (.lst (acc ++ [y])))
  refine he H' p2 _ fun v G' H4 _ g2 e4 hv => ?_
  have hD := e4 Dl _ p3
  refine ⟨ws, hD, sz_lt (by have := p4.1; rw [List.length_take] at this; omega), p1, Ex.mut (p2.trans e4) p1, ws ++ [v], upd_same, ?_⟩
  rw [List.take_add_one, hi]
  show Rows _ _ (bs.take i ++ [b])
  exact rows_snoc (rows_imp p4 fun x y r => L.put _ _ _ _ _ _ hD (L.mono _ _ _ _ e4 r)) (L.put _ _ _ _ _ _ hD (L.mono _ _ _ _ g2 hv))
theorem cp_end {H0 : Hp} {Dl : Addr} {n : Nat} {Q : VK} (e : Ex H0 H) (hn : n = bs.length) (q : ∀ v G' H', Ex H0 G' → Ex G' H' → (∃ p ws, v = .ref p ∧ H0 p = none ∧ G' p = some (.lst ws) ∧ Rows (R G') ws bs) → Q v H') (H' : Hp) (p : Cp H R bs Dl n H') : Q (.ref Dl) H' := by
  obtain ⟨p1, p2, ws, p3, p4⟩ := p
  refine q _ H' H' (e.trans p2) (Ex.refl _) ⟨Dl, ws, rfl, e.none p1, p3, ?_⟩
  rw [hn, List.take_length] at p4
  exact p4
abbrev LstOf (R : Hp → V → β → Prop) (G : Hp) (bs : List β) (v : V) (G' : Hp) : Prop := ∃ p ws, v = .ref p ∧ G p = none ∧ G' p = some (.lst ws) ∧ Rows (R G') ws bs
theorem ep_lcP {α : Type} (as : List α) (inj : α → V) (f : α → β) (L : Lasts R) {a : Addr} (h : Ev tl σ G (.ref a)) (hx : SqL K G a (as.map inj)) (hz : as.length ≤ 40000) (hw : ∀ x, wipe ((wipe σ vs).set j (some x)) vs = wipe σ vs)
    (he : ∀ x, x ∈ as → EvP te ((wipe σ vs).set j (some (inj x))) G fun v G' => R G' v (f x)) : EvP (tLc (iList K tl) (gName j) tYes te vs) σ G (LstOf R G (as.map f)) := fun H0 e Q q => h H0 e _ fun H1 e1 =>
  ⟨a, rfl, ⟨_, ex_l (e.trans e1) hx⟩, fun Dl hD => lc_list (xs := as.map inj) (Cp H1 R (as.map f) Dl) ⟨hD, Ex.new hD, [], upd_same, rows_nil⟩ (fun i H' _ p => ex_l ((e.trans e1).trans p.2.1) hx)
    (fun i x H' hi p => by
      rw [List.getElem?_map] at hi
      cases hc : as[i]? with
      | none => rw [hc] at hi; cases hi
      | some c =>
        rw [hc] at hi
        cases hi
        exact ⟨hw _, cp_turn L p (b := f c) (by rw [List.getElem?_map, hc]; rfl) (by rw [List.length_map]; exact hz) fun H2 e2 Q q => he c (List.mem_of_getElem? hc) H2 ((e.trans e1).trans e2) Q fun v G' H' g1 g2 e3 p => q v H' H' (e2.trans e3) (Ex.refl _) e3 (L.mono _ _ _ _ g2 p)⟩)
    (fun H' p => cp_end (Ex.refl H1) (by rw [List.length_map, List.length_map]) (fun v G' H' g1 g2 ⟨p, ws, r1, r2, r3, r4⟩ => q v G' H' ((e.trans e1).trans g1) g2 ((e1.trans g1).trans g2) ⟨p, ws, r1, (e.trans e1).none r2, r3, r4⟩) H' p)⟩
theorem ep_lcPN {α : Type} (as : List α) (inj : α → V) (f : α → β) (L : Lasts R) (h : EvL tl σ G (as.map inj)) (hz : as.length ≤ 40000) (hw : ∀ x, wipe ((wipe σ vs).set j (some x)) vs = wipe σ vs)
    (he : ∀ x, x ∈ as → EvP te ((wipe σ vs).set j (some (inj x))) G fun v G' => R G' v (f x)) : EvP (tLc (iList K tl) (gName j) tYes te vs) σ G (LstOf R G (as.map f)) := fun H0 e Q q => h H0 e _ fun a H1 ha e1 hx =>
  ⟨a, rfl, ⟨_, sq_of hx⟩, fun Dl hD => lc_list (xs := as.map inj) (Cp H1 R (as.map f) Dl) ⟨hD, Ex.new hD, [], upd_same, rows_nil⟩ (fun i H' _ p => sq_of (p.2.1 a _ hx))
    (fun i x H' hi p => by
      rw [List.getElem?_map] at hi
      cases hc : as[i]? with
      | none => rw [hc] at hi; cases hi
      | some c =>
        rw [hc] at hi
        cases hi
        exact ⟨hw _, cp_turn L p (b := f c) (by rw [List.getElem?_map, hc]; rfl) (by rw [List.length_map]; exact hz) fun H2 e2 Q q => he c (List.mem_of_getElem? hc) H2 ((e.trans e1).trans e2) Q fun v G' H' g1 g2 e3 p => q v H' H' (e2.trans e3) (Ex.refl _) e3 (L.mono _ _ _ _ g2 p)⟩)
    (fun H' p => cp_end (Ex.refl H1) (by rw [List.length_map, List.length_map]) (fun v G' H' g1 g2 ⟨p, ws, r1, r2, r3, r4⟩ => q v G' H' ((e.trans e1).trans g1) g2 ((e1.trans g1).trans g2) ⟨p, ws, r1, (e.trans e1).none r2, r3, r4⟩) H' p)⟩
theorem ep_lcPR {tA : TA} {n : Int} (f : Int → β) (L : Lasts R) (h : EvA tA σ G [.int n]) (hn : 0 ≤ n ∧ n ≤ 40000) (hw : ∀ x, wipe ((wipe σ vs).set j (some x)) vs = wipe σ vs)
    (he : ∀ k : Int, 0 ≤ k → k < n → EvP te ((wipe σ vs).set j (some (.int k))) G fun v G' => R G' v (f k)) : EvP (tLc (iRng1 tA) (gName j) tYes te vs) σ G (LstOf R G ((List.range n.toNat).map fun i : Nat => f (i : Int))) := fun H0 e Q q => h H0 e _ fun H1 e1 =>
  ⟨n, rfl, by omega, by omega, fun Dl hD => lc_range (lo := 0) (n := n.toNat) (Cp H1 R ((List.range n.toNat).map fun i : Nat => f (i : Int)) Dl) ⟨hD, Ex.new hD, [], upd_same, rows_nil⟩
    (fun i H' hi p => by
      have e0 : (0 : Int) + (i : Int) = (i : Int) := Int.zero_add _
      show wipe ((wipe σ vs).set j (some (.int ((0 : Int) + (i : Int))))) vs = wipe σ vs ∧ _
      rw [e0]
      exact ⟨hw _, cp_turn L p (b := f (i : Int)) (by rw [List.getElem?_map, List.getElem?_range hi]; rfl) (by rw [List.length_map, List.length_range]; omega) fun H2 e2 Q q => he (i : Int) (by omega) (by omega) H2 ((e.trans e1).trans e2) Q fun v G' H' g1 g2 e3 p => q v H' H' (e2.trans e3) (Ex.refl _) e3 (L.mono _ _ _ _ g2 p)⟩)
    (fun H' p => cp_end (Ex.refl H1) (by rw [List.length_map, List.length_range]) (fun v G' H' g1 g2 ⟨p, ws, r1, r2, r3, r4⟩ => q v G' H' ((e.trans e1).trans g1) g2 ((e1.trans g1).trans g2) ⟨p, ws, r1, (e.trans e1).none r2, r3, r4⟩) H' p)⟩
end
theorem lasts_gate (K : PySem.W.Frag) : Lasts (GateAt K) := ⟨fun _ _ _ _ e h => h.mono e, fun _ _ _ _ _ _ hl h => h.put hl⟩

/-! ### the laws' plans of any lines -/
def ringGates (many : Int) (n : Int) : List Gate := (List.range n.toNat).map fun k : Nat => ⟨"not", [many + ((k : Int) + 1) % n], 1⟩
def looseCells (ns : List Int) : List Int := if cell ns 1 % 8 = 5 then ((List.range (60 + cell ns 1 / 8 % 131).toNat).map fun k : Nat => cell ns 1 / 8 + 5 * (k : Int)) ++ (ns.drop 3).take 10 else (ns.drop 3).take 200
def looseGates (ns : List Int) (many most : Int) : List Gate :=
  if cell ns 1 % 8 = 2 then ringGates many (60 + cell ns 1 / 8 % 131) ++ ((ns.drop 3).take 10).map fun c => gateBy c (many + (60 + cell ns 1 / 8 % 131)) most
  else (looseCells ns).map fun c => gateBy c (many + (looseCells ns).length) most
def looseP (ns : List Int) (many most : Int) : Plan := ⟨many, looseGates ns many most⟩
def planBy (ns : List Int) (most : Int) : Plan := if cell ns 1 % 3 > 0 then looseP ns (manyOf (cell ns 0)) most else freePlan ns most
theorem looseCells_len {ns : List Int} (h : ns.length ≤ 63) : (looseCells ns).length ≤ 200 := by
  unfold looseCells
  split
  · rw [List.length_append, List.length_map, List.length_range, List.length_take, List.length_drop]
    omega
  · rw [List.length_take]; omega
theorem loose_len {ns : List Int} {many most : Int} (h : ns.length ≤ 63) : (looseGates ns many most).length ≤ 200 := by
  unfold looseGates
  split
  · unfold ringGates
    rw [List.length_append, List.length_map, List.length_range, List.length_map, List.length_take, List.length_drop]
    omega
  · rw [List.length_map]; exact looseCells_len h
theorem loose_ok {ns : List Int} {many most : Int} (h : ns.length ≤ 63) (m0 : 0 ≤ many) (m1 : many ≤ 60) (h0 : 0 < most) (h1 : most ≤ 60) : Valid (looseP ns many most) ∧ ∀ g ∈ (looseP ns many most).gates, PyData.strOk g.kind = true := by
  have main : ∀ g ∈ looseGates ns many most, errGate g (many + (looseGates ns many most).length) = none ∧ PyData.strOk g.kind = true := by
    intro g hg
    by_cases c : cell ns 1 % 8 = 2
    · have e : looseGates ns many most = ringGates many (60 + cell ns 1 / 8 % 131) ++ ((ns.drop 3).take 10).map fun c => gateBy c (many + (60 + cell ns 1 / 8 % 131)) most := by unfold looseGates; rw [if_pos c]
      have hL : (60 + cell ns 1 / 8 % 131 : Int) ≤ (looseGates ns many most).length := by
        rw [e, List.length_append]
        unfold ringGates
        rw [List.length_map, List.length_range]
        omega
      generalize ((looseGates ns many most).length : Int) = len at hL ⊢
      rw [e] at hg
      rcases List.mem_append.mp hg with hg | hg
      · unfold ringGates at hg
        obtain ⟨k, hk, rfl⟩ := List.mem_map.mp hg
        have := List.mem_range.mp hk
        have a := Int.emod_nonneg ((k : Int) + 1) (show (60 + cell ns 1 / 8 % 131 : Int) ≠ 0 by omega)
        have b := Int.emod_lt_of_pos ((k : Int) + 1) (show (0 : Int) < 60 + cell ns 1 / 8 % 131 by omega)
        refine ⟨gate_err (lo := 1) (hi := 1) rfl ⟨by show (1 : Int) ≤ ((1 : Nat) : Int); decide, by show ((1 : Nat) : Int) ≤ 1; decide⟩ (fun s hs => ?_) ⟨by show (1 : Int) ≤ 1; decide, by show (1 : Int) ≤ 60; decide⟩, by show PyData.strOk "not" = true; decide +kernel⟩
        rcases List.mem_singleton.mp hs with rfl
        generalize ((k : Int) + 1) % (60 + cell ns 1 / 8 % 131) = r at *
        omega
      · obtain ⟨c, _, rfl⟩ := List.mem_map.mp hg
        have q := gateBy_ok (c := c) (below := many + (60 + cell ns 1 / 8 % 131)) (most := most) (lines := many + len) (by omega) (by omega) h0 h1
        exact ⟨q.1, q.2.2⟩
    · have e : looseGates ns many most = (looseCells ns).map fun c => gateBy c (many + (looseCells ns).length) most := by unfold looseGates; rw [if_neg c]
      rw [e] at hg ⊢
      rw [List.length_map]
      obtain ⟨c, _, rfl⟩ := List.mem_map.mp hg
      have q := gateBy_ok (c := c) (below := many + (looseCells ns).length) (most := most) (lines := many + (looseCells ns).length) (by omega) (Int.le_refl _) h0 h1
      exact ⟨q.1, q.2.2⟩
  exact ⟨⟨m0, m1, loose_len h, fun g hg => (main g hg).1⟩, fun g hg => (main g hg).2⟩
theorem planBy_ok {ns : List Int} {most : Int} (hn : ns.length ≤ 63) (h0 : 0 < most) (h1 : most ≤ 60) : Valid (planBy ns most) ∧ ∀ g ∈ (planBy ns most).gates, PyData.strOk g.kind = true := by
  obtain ⟨m0, m1⟩ := manyOf_in (cell ns 0)
  unfold planBy
  split
  · exact loose_ok hn m0 m1 h0 h1
  · exact ⟨(free_ok hn h0 h1).1, (free_ok hn h0 h1).2.2⟩
section
variable {K : PySem.W.Frag} {σ : L2.St} {G : Hp} {ta tb : TE} {β : Type} {R : Hp → V → β → Prop} {bs cs : List β} {a : Addr} {ws : List V}
/-- a list that stands + one that is made on the way -/
theorem ep_catR (L : Lasts R) (ha : Ev ta σ G (.ref a)) (hl : G a = some (.lst ws)) (hR : Rows (R G) ws bs) (hb : EvP tb σ G (LstOf R G cs)) (hz : bs.length + cs.length ≤ 100000) : EvP (tOp rCat ta tb) σ G (LstOf R G (bs ++ cs)) := fun H e Q q =>
  ha H e _ fun H1 e1 => hb H1 (e.trans e1) _ fun v G' H2 g1 g2 e2 ⟨p, zs, hv, hp, hG, hR2⟩ =>
    ⟨a, p, ws, zs, rfl, hv, e2 _ _ (e1 _ _ (e _ _ hl)), g2 _ _ hG, sz_of (by rw [hR.1, hR2.1]; omega), fun pn hpn => q _ (upd G' pn (.lst (ws ++ zs))) _ (g1.trans (Ex.new (g2.none hpn))) (Ex.put g2) ((e1.trans e2).trans (Ex.new hpn))
      ⟨pn, ws ++ zs, rfl, g1.none (g2.none hpn), upd_same, rows_append (rows_imp hR fun _ _ r => L.mono _ _ _ _ (g1.trans (Ex.new (g2.none hpn))) r) (rows_imp hR2 fun _ _ r => L.mono _ _ _ _ (Ex.new (g2.none hpn)) r)⟩⟩
/-- two new lists -/
theorem el_catN {xs ys : List V} (ha : EvL ta σ G xs) (hb : EvL tb σ G ys) (hz : xs.length + ys.length ≤ 100000) : EvL (tOp rCat ta tb) σ G (xs ++ ys) := fun H e Q q =>
  ha H e _ fun p H1 hp e1 h1 => hb H1 (e.trans e1) _ fun p2 H2 hp2 e2 h2 => ⟨p, p2, xs, ys, rfl, rfl, e2 _ _ h1, h2, sz_of hz, fun pn hpn => q pn _ (e1.none (e2.none hpn)) ((e1.trans e2).trans (Ex.new hpn)) upd_same⟩
/-- (many, gates), the list of them of which is said what they are -/
theorem ep_planP {p : Plan} (h1 : Ev ta σ G (.int p.many)) (h2 : EvP tb σ G (LstOf (GateAt K) G p.gates)) : EvP (tTup (tCons ta (tCons tb tNil))) σ G fun v G' => PlanAt K G' v p := fun H e Q q =>
  h1 H e _ fun H1 e1 => h2 H1 (e.trans e1) _ fun v G' H2 g1 g2 e2 ⟨g, vs, hv, hg, hl, hR⟩ =>
    ⟨sz_of (by show 2 ≤ 100000; decide), fun a ha => q _ (upd G' a (.tup [.int p.many, v])) _ (g1.trans (Ex.new (g2.none ha))) (Ex.put g2) ((e1.trans e2).trans (Ex.new ha))
      ⟨a, g, rfl, by rw [hv]; exact st_of upd_same, vs, ex_l (Ex.new (g2.none ha)) (sq_of hl), rows_imp hR fun _ _ r => r.mono (Ex.new (g2.none ha))⟩⟩
end
section
variable {K : PySem.W.Frag} {σ : L2.St} {G : Hp} {ta : TE} {D : Ends} {tz : TS} {i : Nat} {l : Addr} {xs : List V} {x : V}
/-- x = xs.pop() -/
theorem go_pop (ha : Ev ta σ G (.ref l)) (hl : G l = some (.lst (xs ++ [x]))) (k : Go tz D (σ.set i (some x)) (upd G l (.lst xs))) : Go (tSeq (tAsg (tBM0 K "list" rPop ta) (gName i)) tz) D σ G := fun H e => ha H e _ fun H1 e1 =>
  ⟨Or.inl ⟨rfl, _, sq_of (e1 l _ (e l _ hl))⟩, l, xs ++ [x], x, rfl, rfl, e1 l _ (e l _ hl), by rw [List.length_append]; simp, by
    rw [List.dropLast_concat]
    exact k _ (Ex.put (e.trans e1))⟩
end

/-! ### who sees what -/
theorem inV_ints (i : Int) (ns : List Int) : inV (.int i) (ns.map V.int) = decide (i ∈ ns) := by
  unfold inV
  induction ns with
  | nil => rfl
  | cons n r ih =>
    rw [List.map_cons, List.any_cons, ih]
    have e : eqV (V.int n) (V.int i) = decide (n = i) := rfl
    rw [e]
    by_cases h : n = i
    · subst h; simp
    · have h' : ¬ i = n := fun h2 => h h2.symm
      simp [h, h']
theorem flat_ints (ns : List Int) : (ns.map V.int).all flatV = true := by
  rw [List.all_eq_true]
  intro v hv
  obtain ⟨i, _, rfl⟩ := List.mem_map.mp hv
  rfl
/-- a gate that has the line as a source, or one of these, and so on -/
inductive Sees (p : Plan) (l : Int) : Int → Prop
  | src {i : Nat} {g : Gate} : p.gates[i]? = some g → l ∈ g.srcs → Sees p l (p.many + i)
  | step {i : Nat} {g : Gate} {y : Int} : Sees p l y → p.gates[i]? = some g → y ∈ g.srcs → Sees p l (p.many + i)
theorem Sees.gate {p : Plan} {l x : Int} (h : Sees p l x) : ∃ (i : Nat) (g : Gate), p.gates[i]? = some g ∧ x = p.many + i := by
  cases h with
  | src h1 _ => exact ⟨_, _, h1, rfl⟩
  | step _ h1 _ => exact ⟨_, _, h1, rfl⟩
theorem Sees.range {p : Plan} {l x : Int} (h : Sees p l x) : p.many ≤ x ∧ x < p.lines := by
  obtain ⟨i, g, hg, rfl⟩ := h.gate
  have := (List.getElem?_eq_some_iff.mp hg).1
  unfold Plan.lines
  omega
open Classical in
noncomputable def seersM (p : Plan) (l : Int) : List Int := ((List.range p.lines.toNat).filter fun i : Nat => decide (Sees p l (i : Int))).map fun i : Nat => (i : Int)
/-- all gates that have y as a source are seen -/
def ClosedAt (p : Plan) (s : List Bool) (y : Int) : Prop := ∀ (i : Nat) (g : Gate), p.gates[i]? = some g → y ∈ g.srcs → s.getD (p.many + i).toNat false = true
/-- what is seen so far -/
structure SeenInv (p : Plan) (l : Int) (s : List Bool) (w : List Int) : Prop where
  len : (s.length : Int) = p.lines
  snd : ∀ x : Int, 0 ≤ x → s.getD x.toNat false = true → Sees p l x
  wt : ∀ y ∈ w, y = l ∨ Sees p l y
  cl : ∀ y : Int, (y = l ∨ (0 ≤ y ∧ s.getD y.toNat false = true)) → y ∈ w ∨ ClosedAt p s y
theorem seen_end {p : Plan} {l : Int} {s : List Bool} (m0 : 0 ≤ p.many) (h : SeenInv p l s []) : ∀ x : Int, 0 ≤ x → (s.getD x.toNat false = true ↔ Sees p l x) := by
  intro x x0
  refine ⟨h.snd x x0, fun hs => ?_⟩
  clear x0
  induction hs with
  | src hg hl =>
    rcases h.cl l (.inl rfl) with q | q
    · cases q
    · exact q _ _ hg hl
  | step hy hg hm ih =>
    rcases h.cl _ (.inr ⟨by have := hy.range; omega, ih⟩) with q | q
    · cases q
    · exact q _ _ hg hm
open Classical in
theorem seen_list {p : Plan} {l : Int} {s : List Bool} (m0 : 0 ≤ p.many) (h : SeenInv p l s []) : (((List.range p.lines.toNat).filter fun i : Nat => s.getD i false).map fun i : Nat => (i : Int)) = seersM p l := by
  unfold seersM
  congr 1
  refine List.filter_congr fun i _ => ?_
  have := seen_end m0 h (i : Int) (Int.natCast_nonneg i)
  rw [Int.toNat_natCast] at this
  by_cases c : Sees p l (i : Int)
  · rw [this.mpr c]; exact (decide_eq_true c).symm
  · have : s.getD i false = false := by
      cases e : s.getD i false
      · rfl
      · exact absurd (this.mp e) c
    rw [this]; exact (decide_eq_false c).symm
theorem falses_get (n k : Nat) : (List.replicate n false).getD k false = false := by
  rw [List.getD_eq_getElem?_getD, List.getElem?_replicate]
  split <;> rfl
theorem seen_start {p : Plan} {l : Int} (h : 0 ≤ p.lines) : SeenInv p l (List.replicate p.lines.toNat false) [l] := by
  refine ⟨by rw [List.length_replicate]; omega, fun x _ h => ?_, fun y hy => .inl (List.mem_singleton.mp hy), fun y hy => ?_⟩
  · rw [falses_get] at h; cases h
  · rcases hy with rfl | ⟨_, h⟩
    · exact .inl List.mem_cons_self
    · rw [falses_get] at h; cases h
/-! seers: one after the other -/
def seeStep (many : Int) (one : Int) : List Gate → Nat → List Bool × List Int → List Bool × List Int
  | [], _, r => r
  | g :: gs, k, r => seeStep many one gs (k + 1) (if one ∈ g.srcs ∧ r.1.getD (many + k).toNat false = false then (r.1.set (many + k).toNat true, r.2 ++ [many + k]) else r)
structure SeeOut (many one : Int) (gs : List Gate) (k : Nat) (s : List Bool) (w : List Int) (s' : List Bool) (w' : List Int) : Prop where
  len : s'.length = s.length
  cnt : w'.length + cntF s' = w.length + cntF s
  seen : ∀ x : Nat, s'.getD x false = true ↔ s.getD x false = true ∨ ∃ (i : Nat) (g : Gate), gs[i]? = some g ∧ one ∈ g.srcs ∧ (x : Int) = many + (k + i : Nat)
  old : ∀ y ∈ w, y ∈ w'
  new : ∀ y ∈ w', y ∈ w ∨ (many ≤ y ∧ s'.getD y.toNat false = true)
  got : ∀ x : Nat, s.getD x false = false → s'.getD x false = true → (x : Int) ∈ w'
theorem seeStep_out {many one : Int} (m0 : 0 ≤ many) : ∀ (gs : List Gate) (k : Nat) (s : List Bool) (w : List Int), (many + (k + gs.length : Nat) ≤ s.length) → SeeOut many one gs k s w (seeStep many one gs k (s, w)).1 (seeStep many one gs k (s, w)).2
  | [], k, s, w, _ => ⟨rfl, rfl, fun x => ⟨.inl, fun h => h.elim id fun ⟨i, g, h, _⟩ => by simp at h⟩, fun _ h => h, fun _ h => .inl h, fun x h1 h2 => by
      have h2 : s.getD x false = true := h2
      rw [h1] at h2; cases h2⟩
  | g :: gs, k, s, w, hl => by
    rw [List.length_cons] at hl
    rw [seeStep]
    by_cases c : one ∈ g.srcs ∧ s.getD (many + k).toNat false = false
    · simp only [if_pos c]
      have hlt : (many + k).toNat < s.length := by omega
      obtain ⟨a1, a2, a3, a4, a5, a6⟩ := seeStep_out m0 gs (k + 1) (s.set (many + k).toNat true) (w ++ [many + k]) (by rw [List.length_set]; omega)
      have hc := cntF_set hlt c.2
      rw [List.length_set] at a1
      refine ⟨a1, ?_, fun x => ?_, fun y hy => a4 y (List.mem_append_left _ hy), fun y hy => ?_, fun x h1 h2 => ?_⟩
      · rw [List.length_append] at a2
        simp at a2; omega
      · rw [a3 x]
        constructor
        · rintro (h | ⟨i, g', h1, h2, h3⟩)
          · rw [getD_set hlt] at h
            by_cases e : (many + k).toNat = x
            · exact .inr ⟨0, g, rfl, c.1, by omega⟩
            · rw [if_neg e] at h; exact .inl h
          · exact .inr ⟨i + 1, g', by simpa using h1, h2, by omega⟩
        · rintro (h | ⟨i, g', h1, h2, h3⟩)
          · left
            rw [getD_set hlt]
            split
            · rfl
            · exact h
          · cases i with
            | zero => left; rw [getD_set hlt, if_pos (by omega)]
            | succ i => exact .inr ⟨i, g', by simpa using h1, h2, by omega⟩
      · rcases a5 y hy with h | h
        · rcases List.mem_append.mp h with h | h
          · exact .inl h
          · rcases List.mem_singleton.mp h with rfl
            exact .inr ⟨by omega, (a3 _).mpr (.inl (by rw [getD_set hlt, if_pos rfl]))⟩
        · exact .inr h
      · by_cases e : (many + k).toNat = x
        · have : (x : Int) = many + k := by omega
          rw [this]
          exact a4 _ (List.mem_append_right _ (List.mem_singleton.mpr rfl))
        · exact a6 x (by rw [getD_set hlt, if_neg e]; exact h1) h2
    · simp only [if_neg c]
      obtain ⟨a1, a2, a3, a4, a5, a6⟩ := seeStep_out m0 gs (k + 1) s w (by omega)
      refine ⟨a1, a2, fun x => ?_, a4, a5, a6⟩
      rw [a3 x]
      constructor
      · rintro (h | ⟨i, g', h1, h2, h3⟩)
        · exact .inl h
        · exact .inr ⟨i + 1, g', by simpa using h1, h2, by omega⟩
      · rintro (h | ⟨i, g', h1, h2, h3⟩)
        · exact .inl h
        · cases i with
          | zero =>
            have : g' = g := by simpa using h1.symm
            subst this
            left
            have hx : (many + k).toNat = x := by omega
            cases e : s.getD x false with
            | true => rfl
            | false => exact absurd ⟨h2, by rw [hx]; exact e⟩ c
          | succ i => exact .inr ⟨i, g', by simpa using h1, h2, by omega⟩
/-- one is taken off the end of the waiting, and its gates are looked at -/
theorem seen_turn {p : Plan} {l one : Int} {s : List Bool} {w : List Int} (m0 : 0 ≤ p.many) (h : SeenInv p l s (w ++ [one])) :
    SeenInv p l (seeStep p.many one p.gates 0 (s, w)).1 (seeStep p.many one p.gates 0 (s, w)).2 ∧ (seeStep p.many one p.gates 0 (s, w)).2.length + cntF (seeStep p.many one p.gates 0 (s, w)).1 + 1 = (w ++ [one]).length + cntF s := by
  have hl := h.len
  obtain ⟨a1, a2, a3, a4, a5, a6⟩ := seeStep_out (one := one) m0 p.gates 0 s w (by unfold Plan.lines at hl; omega)
  generalize (seeStep p.many one p.gates 0 (s, w)).1 = s' at *
  generalize (seeStep p.many one p.gates 0 (s, w)).2 = w' at *
  have h1 : one = l ∨ Sees p l one := h.wt one (List.mem_append_right _ (List.mem_singleton.mpr rfl))
  have snd : ∀ x : Int, 0 ≤ x → s'.getD x.toNat false = true → Sees p l x := fun x x0 hx => by
    rcases (a3 _).mp hx with q | ⟨i, g, hg, hm, he⟩
    · exact h.snd x x0 q
    · have e : x = p.many + (i : Int) := by omega
      rw [e]
      rcases h1 with rfl | h1
      · exact .src hg hm
      · exact .step h1 hg hm
  refine ⟨⟨by rw [a1]; exact hl, snd, fun y hy => ?_, fun y hy => ?_⟩, by rw [List.length_append]; simp; omega⟩
  · rcases a5 y hy with q | ⟨q1, q2⟩
    · exact h.wt y (List.mem_append_left _ q)
    · exact .inr (snd y (by omega) q2)
  · have keep : ClosedAt p s y → ClosedAt p s' y := fun q i g hg hm => (a3 _).mpr (.inl (q i g hg hm))
    have one_ok : ClosedAt p s' one := fun i g hg hm => (a3 _).mpr (.inr ⟨i, g, hg, hm, by omega⟩)
    have main : (y = l ∨ (0 ≤ y ∧ s.getD y.toNat false = true)) → y ∈ w' ∨ ClosedAt p s' y := fun hy => by
      rcases h.cl y hy with q | q
      · rcases List.mem_append.mp q with q | q
        · exact .inl (a4 y q)
        · rcases List.mem_singleton.mp q with rfl
          exact .inr one_ok
      · exact .inr (keep q)
    rcases hy with hy | ⟨y0, hy⟩
    · exact main (.inl hy)
    · cases e : s.getD y.toNat false with
      | true => exact main (.inr ⟨y0, e⟩)
      | false =>
        left
        have := a6 y.toNat e hy
        rw [Int.toNat_of_nonneg y0] at this
        exact this
/-! the law's way: round by round -/
theorem seen_round {p : Plan} {l : Int} {s : List Bool} {news fresh : List Int} (m0 : 0 ≤ p.many) (h : SeenInv p l s news)
    (hf : ∀ x : Int, x ∈ fresh ↔ ∃ (i : Nat) (g : Gate), p.gates[i]? = some g ∧ x = p.many + i ∧ s.getD x.toNat false = false ∧ ∃ y ∈ g.srcs, y ∈ news) : SeenInv p l (doneBy s fresh) fresh := by
  have hl := h.len
  have fpos : ∀ x ∈ fresh, 0 ≤ x := fun x hx => by
    obtain ⟨i, g, _, rfl, _⟩ := (hf x).mp hx
    omega
  have dget : ∀ (ls : List Int) (d : List Bool) (k : Nat), (d.getD k false = true → (doneBy d ls).getD k false = true) := fun ls => by
    induction ls with
    | nil => intro d k h; exact h
    | cons x r ih =>
      intro d k hk
      refine ih _ k ?_
      by_cases e : x.toNat = k
      · subst e
        rw [getD_set_eq]
        by_cases c : x.toNat < d.length
        · exact c
        · rw [List.getD_eq_getElem?_getD, List.getElem?_eq_none (by omega)] at hk; cases hk
      · rw [getD_set_ne e]; exact hk
  have dgot : ∀ (ls : List Int) (d : List Bool) (x : Int), x ∈ ls → x.toNat < d.length → (doneBy d ls).getD x.toNat false = true := fun ls => by
    induction ls with
    | nil => intro d x hx; cases hx
    | cons y r ih =>
      intro d x hx hlt
      rcases List.mem_cons.mp hx with rfl | hx
      · exact dget r _ _ (getD_set_eq hlt)
      · exact ih _ x hx (by rw [List.length_set]; exact hlt)
  have sees : ∀ x ∈ fresh, Sees p l x := fun x hx => by
    obtain ⟨i, g, hg, rfl, _, y, hy, hn⟩ := (hf x).mp hx
    rcases h.wt y hn with rfl | q
    · exact .src hg hy
    · exact .step q hg hy
  refine ⟨by rw [doneBy_len]; exact hl, fun x x0 hx => ?_, fun y hy => .inr (sees y hy), fun y hy => ?_⟩
  · rcases doneBy_get (p := p) x0 fresh s fpos hx with q | q
    · exact h.snd x x0 q
    · exact sees x q
  · have keep : ClosedAt p s y → ClosedAt p (doneBy s fresh) y := fun q i g hg hm => dget _ _ _ (q i g hg hm)
    have main : (y = l ∨ (0 ≤ y ∧ s.getD y.toNat false = true)) → y ∈ fresh ∨ ClosedAt p (doneBy s fresh) y := fun hy => by
      rcases h.cl y hy with q | q
      · refine .inr fun i g hg hm => ?_
        cases e : s.getD (p.many + (i : Int)).toNat false with
        | true => exact dget _ _ _ e
        | false =>
          refine dgot _ _ _ ((hf _).mpr ⟨i, g, hg, rfl, e, y, hm, q⟩) ?_
          have := (List.getElem?_eq_some_iff.mp hg).1
          unfold Plan.lines at hl
          omega
      · exact .inr (keep q)
    rcases hy with hy | ⟨y0, hy⟩
    · exact main (.inl hy)
    · rcases doneBy_get (p := p) y0 fresh s fpos hy with q | q
      · exact main (.inr ⟨y0, q⟩)
      · exact .inl q
theorem cntF_doneBy : ∀ (ls : List Int) (d : List Bool), (∀ x ∈ ls, 0 ≤ x ∧ x.toNat < d.length ∧ d.getD x.toNat false = false) → ls.Nodup → cntF (doneBy d ls) + ls.length = cntF d
  | [], d, _, _ => rfl
  | x :: r, d, h, nd => by
    obtain ⟨h0, h1, h2⟩ := h x List.mem_cons_self
    obtain ⟨n1, n2⟩ := List.nodup_cons.mp nd
    have ih := cntF_doneBy r (d.set x.toNat true) (fun y hy => by
      obtain ⟨k0, k1, k2⟩ := h y (List.mem_cons_of_mem _ hy)
      refine ⟨k0, by rw [List.length_set]; exact k1, ?_⟩
      rw [getD_set_ne]
      · exact k2
      · intro e
        exact n1 (by rw [show x = y by omega]; exact hy)) n2
    have := cntF_set h1 h2
    show cntF (doneBy (d.set x.toNat true) r) + (r.length + 1) = _
    omega
def freshC (p : Plan) (s : List Bool) (news : List Int) (i : Nat) : Bool := !(s.getD (p.many + (i : Int)).toNat false) && (((p.gates.getD i ⟨"", [], 0⟩).srcs).map fun y => decide (y ∈ news)).any id
def freshN (p : Plan) (s : List Bool) (news : List Int) (n : Nat) : List Int := ((List.range n).filter (freshC p s news)).map fun i : Nat => p.many + (i : Int)
theorem freshN_succ (p : Plan) (s : List Bool) (news : List Int) (n : Nat) : freshN p s news (n + 1) = if freshC p s news n = true then freshN p s news n ++ [p.many + (n : Int)] else freshN p s news n := by
  unfold freshN
  rw [List.range_succ, List.filter_append, List.map_append]
  by_cases c : freshC p s news n = true
  · rw [if_pos c]; simp [c]
  · rw [if_neg c]; simp [c]
theorem freshN_len (p : Plan) (s : List Bool) (news : List Int) (n : Nat) : (freshN p s news n).length ≤ n := by
  unfold freshN
  rw [List.length_map]
  have := List.length_filter_le (freshC p s news) (List.range n)
  rw [List.length_range] at this
  exact this
theorem mem_freshN {p : Plan} {s : List Bool} {news : List Int} {x : Int} : x ∈ freshN p s news p.gates.length ↔ ∃ (i : Nat) (g : Gate), p.gates[i]? = some g ∧ x = p.many + i ∧ s.getD x.toNat false = false ∧ ∃ y ∈ g.srcs, y ∈ news := by
  unfold freshN
  rw [List.mem_map]
  constructor
  · rintro ⟨i, hi, rfl⟩
    obtain ⟨h1, h2⟩ := List.mem_filter.mp hi
    have hl := List.mem_range.mp h1
    unfold freshC at h2
    rw [List.getD_eq_getElem?_getD (l := p.gates), List.getElem?_eq_getElem hl] at h2
    simp only [Option.getD_some, Bool.and_eq_true, Bool.not_eq_true', List.any_map, List.any_eq_true] at h2
    obtain ⟨h3, y, h4, h5⟩ := h2
    exact ⟨i, _, List.getElem?_eq_getElem hl, rfl, h3, y, h4, by simpa using h5⟩
  · rintro ⟨i, g, hg, rfl, hs, y, hy, hn⟩
    have hl := (List.getElem?_eq_some_iff.mp hg).1
    refine ⟨i, List.mem_filter.mpr ⟨List.mem_range.mpr hl, ?_⟩, rfl⟩
    unfold freshC
    rw [List.getD_eq_getElem?_getD (l := p.gates), hg, hs]
    simp only [Option.getD_some, Bool.not_false, Bool.true_and, List.any_map, List.any_eq_true]
    exact ⟨y, hy, by simpa using hn⟩
theorem freshN_nodup (p : Plan) (s : List Bool) (news : List Int) (n : Nat) : (freshN p s news n).Nodup := by
  unfold freshN
  have h : ((List.range n).filter (freshC p s news)).Nodup := List.Nodup.sublist List.filter_sublist List.nodup_range
  exact h.map (fun i : Nat => p.many + (i : Int)) fun a b hne he => hne (by omega)
/-- a round: what is seen then, and that it comes to an end -/
theorem fresh_turn {p : Plan} {l : Int} {s : List Bool} {news : List Int} (m0 : 0 ≤ p.many) (h : SeenInv p l s news) :
    SeenInv p l (doneBy s (freshN p s news p.gates.length)) (freshN p s news p.gates.length) ∧ cntF (doneBy s (freshN p s news p.gates.length)) + (freshN p s news p.gates.length).length = cntF s := by
  refine ⟨seen_round m0 h fun x => mem_freshN, cntF_doneBy _ _ (fun x hx => ?_) (freshN_nodup _ _ _ _)⟩
  obtain ⟨i, g, hg, rfl, hs, _⟩ := mem_freshN.mp hx
  have := (List.getElem?_eq_some_iff.mp hg).1
  have hl := h.len
  unfold Plan.lines at hl
  exact ⟨by omega, by omega, hs⟩

/-! ### words, several clauses -/
section
variable {K : PySem.W.Frag} {σ : L2.St} {G H : Hp} {ta tb te : TE} {tl th : TO} {tA : TA} {D : Ends} {W : WX} {ts : Addr → Value → Option Addr → TS} {r : List (Value × (Addr → Value → Option Addr → TS))} {c cls : Value} {d : Option Addr} {z y : Str} {lo hi : Option Int} {xs ys : List V} {l : Addr} {β : Type} {R : Hp → V → β → Prop} {bs : List β}
theorem wm_hit (h : PySem.W.exmOne K cls c = some true) (e : Ex G H) (k : ∀ a, G a = none → Go (ts a cls d) D σ G) : wMany K W D ((c, ts) :: r) cls d σ H :=
  ⟨true, h, fun _ a ha => k a (e.none ha) H e, fun z => (by cases z)⟩
theorem wm_miss (h : PySem.W.exmOne K cls c = some false) (k : wMany K W D r cls d σ H) : wMany K W D ((c, ts) :: r) cls d σ H := ⟨false, h, fun z => (by cases z), fun _ => k⟩
theorem ev_slX (h : Ev te σ G (.str z)) (h1 : EvO tl σ G lo) (h2 : EvO th σ G hi) (hz : z.length ≤ 100000) : Ev (tSl C8.rSlX te tl th) σ G (.str (Txt.slice z lo hi)) := fun H1 e Q q =>
  h H1 e _ fun H2 e2 => h1 H2 (e.trans e2) _ fun H3 e3 => h2 H3 ((e.trans e2).trans e3) _ fun H4 e4 => ⟨z, rfl, sz_of hz, q H4 ((e2.trans e3).trans e4)⟩
theorem slice_len (z : Str) (lo hi : Option Int) : (Txt.slice z lo hi).length ≤ z.length := by rw [← C8.cutS_slice]; exact cutS_length z lo hi
theorem ev_addZ (h : Ev ta σ G (.str z)) (h2 : Ev tb σ G (.str y)) (hz : z.length + y.length ≤ 100000) : Ev (tOp rAddZ ta tb) σ G (.str (z ++ y)) := fun H1 e Q q =>
  h H1 e _ fun H2 e2 => h2 H2 (e.trans e2) _ fun H3 e3 => ⟨z, y, rfl, rfl, sz_of hz, q H3 (e2.trans e3)⟩
theorem ev_lenZ (h : Ev ta σ G (.str z)) (hz : z.length ≤ 100000) : Ev (tCB rLenZ (tCons ta tNil)) σ G (.int z.length) := fun H1 e Q q => h H1 e _ fun H2 e2 => ⟨z, rfl, sz_of hz, q H2 e2⟩
theorem el_catV (ha : Ev ta σ G (.ref l)) (hl : G l = some (.lst xs)) (hb : EvL tb σ G ys) (hz : xs.length + ys.length ≤ 100000) : EvL (tOp rCat ta tb) σ G (xs ++ ys) := fun H e Q q =>
  ha H e _ fun H1 e1 => hb H1 (e.trans e1) _ fun p2 H2 hp2 e2 h2 => ⟨l, p2, xs, ys, rfl, rfl, e2 _ _ (e1 _ _ (e _ _ hl)), h2, sz_of hz, fun pn hpn => q pn _ (e1.none (e2.none hpn)) ((e1.trans e2).trans (Ex.new hpn)) upd_same⟩
/-- an item of a list that is made on the way -/
theorem ep_ixL {b : β} {k : Nat} (h : EvP ta σ G (LstOf R G bs)) (h2 : Ev tb σ G (.int (k : Int))) (hb : bs[k]? = some b) : EvP (tOp (rIxL K) ta tb) σ G fun v G' => R G' v b := fun H e Q q =>
  h H e _ fun v G' H1 g1 g2 e1 ⟨p, ws, hv, _, hl, hR⟩ => (h2.mono g1) H1 g2 _ fun H2 e2 => by
    have hk : k < ws.length := by rw [hR.1]; exact (List.getElem?_eq_some_iff.mp hb).1
    exact ⟨p, ws, k, ws[k], hv, rfl, sq_of (e2 _ _ (g2 _ _ hl)), atI_nat (List.getElem?_eq_getElem hk), q _ G' H2 g1 (g2.trans e2) (e1.trans e2) (hR.2 k _ _ (List.getElem?_eq_getElem hk) hb)⟩
end
/-! pairs written out -/
def tPairs : List (Int × Int) → TA
  | [] => tNil
  | p :: r => tCons (tTup (tCons (tC (.int p.1)) (tCons (tC (.int p.2)) tNil))) (tPairs r)
def PairAt (K : PySem.W.Frag) (G : Hp) (v : V) (p : Int × Int) : Prop := ∃ a, v = .ref a ∧ SqT K G a [.int p.1, .int p.2]
theorem PairAt.mono {K : PySem.W.Frag} {G G' : Hp} {v : V} {p : Int × Int} (e : Ex G G') (h : PairAt K G v p) : PairAt K G' v p := by
  obtain ⟨a, rfl, h⟩ := h
  exact ⟨a, rfl, ex_t e h⟩
theorem eap_pairs {K : PySem.W.Frag} {σ : L2.St} : ∀ (ps : List (Int × Int)) {G : Hp}, EvAP (tPairs ps) σ G fun vs G' => Rows (PairAt K G') vs ps
  | [], G => fun H e Q q => q [] G H (Ex.refl _) e (Ex.refl _) rows_nil
  | p :: r, G => by
    intro H e Q q
    show tTup (tCons (tC (.int p.1)) (tCons (tC (.int p.2)) tNil)) σ H fun v H1 => tPairs r σ H1 fun vs H2 => Q (v :: vs) H2
    refine ep_U (eu_tup (ta := tCons (tC (.int p.1)) (tCons (tC (.int p.2)) tNil)) (ea_cons ev_c (ea_cons ev_c ea_nil)) (by show 2 ≤ 100000; decide)) H e _ fun v G1 H1 g1 g2 e1 hv => ?_
    obtain ⟨a, hv, ha, hG⟩ := hv
    refine eap_pairs (K := K) r H1 g2 _ fun vs G2 H2 k1 k2 e2 hR => ?_
    refine q (v :: vs) G2 H2 (g1.trans k1) k2 (e1.trans e2) ⟨by simp [hR.1], fun i x y hx hy => ?_⟩
    cases i with
    | zero =>
      simp at hx hy
      subst hx hy
      exact ⟨a, hv, ex_t k1 (st_of (by rw [hG]; exact upd_same))⟩
    | succ i => exact hR.2 i x y (by simpa using hx) (by simpa using hy)
theorem ep_pairs {K : PySem.W.Frag} {σ : L2.St} {G : Hp} (ps : List (Int × Int)) (hz : ps.length ≤ 100000) : EvP (tLst (tPairs ps)) σ G (LstOf (PairAt K) G ps) :=
  ep_lst (eap_pairs ps) (fun vs G' h => by rw [h.1]; exact hz) fun vs G' p e h hp => ⟨p, vs, rfl, e.none hp, upd_same, rows_imp h fun _ _ r => r.mono (Ex.new hp)⟩
/-! the values drawn -/
def truthsM (c n : Int) : List Bool := (List.range n.toNat).map fun k : Nat => decide (mixed c k 2 = 1)
theorem truthsM_len {c n : Int} (h : 0 ≤ n) : ((truthsM c n).length : Int) = n := by unfold truthsM; simp; omega
/-! k02's words -/
def some21 : List Str := kinds9 ++ (["", "Yes", "and", "or", "keeps", " not", "both ", "NO", "mos", "kind", "in", "by"] : List Str)
theorem some21_len {k : Nat} (h : k < 21) : (some21.getD k "").length ≤ 10 := by
  have h2 : ∀ j : Fin 21, (some21.getD j.1 "").length ≤ 10 := by decide +kernel
  exact h2 ⟨k, h⟩
theorem some9_pos {k : Nat} (h : k < 9) : 0 < (some21.getD k "").length := by
  have h2 : ∀ j : Fin 9, 0 < (some21.getD j.1 "").length := by decide +kernel
  exact h2 ⟨k, h⟩
def pairs9 : List (Int × Int) := [(0, 0), (0, 0), (1, 1), (1, 1), (2, 9), (2, 9), (2, 9), (3, 3), (3, 3)]
theorem pairs9_ok {k : Nat} (h : k < 9) : ∃ b, pairs9[k]? = some b ∧ wantsM (kinds9.getD k "") = .ok b := by
  have hk : k = 0 ∨ k = 1 ∨ k = 2 ∨ k = 3 ∨ k = 4 ∨ k = 5 ∨ k = 6 ∨ k = 7 ∨ k = 8 := by omega
  rcases hk with rfl | rfl | rfl | rfl | rfl | rfl | rfl | rfl | rfl <;> exact ⟨_, rfl, rfl⟩
theorem wants_none {z : Str} (h : ∀ k, k < 9 → z ≠ kinds9.getD k "") : wantsM z = .error .kind := by
  have hn : least z = none := by
    have h0 : z ≠ "yes" := h 0 (by decide)
    have h1 : z ≠ "no" := h 1 (by decide)
    have h2 : z ≠ "keep" := h 2 (by decide)
    have h3 : z ≠ "not" := h 3 (by decide)
    have h4 : z ≠ "both" := h 4 (by decide)
    have h5 : z ≠ "either" := h 5 (by decide)
    have h6 : z ≠ "unlike" := h 6 (by decide)
    have h7 : z ≠ "pick" := h 7 (by decide)
    have h8 : z ≠ "most" := h 8 (by decide)
    unfold least
    rw [if_neg h0, if_neg h1, if_neg h2, if_neg h3, if_neg h4, if_neg h5, if_neg h6, if_neg h7, if_neg h8]
  unfold wantsM
  rw [hn]
theorem answer_errs {z : Str} {bs : List Bool} {e : Err} (h : answerM z bs = .error e) : e = .kind ∨ e = .sources := by
  unfold answerM wantsM at h
  cases c : least z with
  | none => rw [c] at h; cases h; exact .inl rfl
  | some i =>
    rw [c] at h
    by_cases d : i ≤ bs.length ∧ (bs.length : Int) ≤ (if i = 2 then 9 else i)
    · simp only [if_pos d] at h; cases h
    · simp only [if_neg d] at h; cases h; exact .inr rfl

/-! ### settled -/
def bitsOf (vs : List Bool) (ss : List Int) : List Bool := ss.map fun s => vs.getD s.toNat false
def gateV (g : Gate) (vs : List Bool) : Bool := answerV g.kind (bitsOf vs g.srcs)
theorem answer_gate {g : Gate} {lines : Int} (h : errGate g lines = none) (vs : List Bool) : answerM g.kind (bitsOf vs g.srcs) = .ok (gateV g vs) := by
  obtain ⟨⟨lo, hi, hw, hlo, hhi⟩, _⟩ := gate_ok h
  have hl : (bitsOf vs g.srcs).length = g.srcs.length := List.length_map _
  unfold answerM
  rw [hw]
  simp only [hl]
  rw [if_pos ⟨hlo, hhi⟩]
  rfl
theorem gate_short {g : Gate} {lines : Int} (h : errGate g lines = none) : g.srcs.length ≤ 9 := by
  obtain ⟨⟨lo, hi, hw, hlo, hhi⟩, _⟩ := gate_ok h
  have := wants_le hw
  omega
theorem gateN_get {p : Plan} {l : Int} (h0 : p.many ≤ l) (h1 : l < p.lines) : p.gates[(l - p.many).toNat]? = some (gateN p l) ∧ gateN p l ∈ p.gates := by
  have hj : (l - p.many).toNat < p.gates.length := by unfold Plan.lines at h1; omega
  have e : gateN p l = p.gates[(l - p.many).toNat] := by
    unfold gateN
    rw [List.getD_eq_getElem?_getD, List.getElem?_eq_getElem hj]; rfl
  rw [e]
  exact ⟨List.getElem?_eq_getElem hj, List.getElem_mem hj⟩
/-- a value is told for each line in a plan's order, of its sources' -/
def foldSet {α : Type} (F : List α → Int → α) (f : List Int) (ts : List α) : List α := f.foldl (fun ts l => ts.set l.toNat (F ts l)) ts
theorem foldSet_snoc {α : Type} (F : List α → Int → α) (f : List Int) (l : Int) (ts : List α) : foldSet F (f ++ [l]) ts = (foldSet F f ts).set l.toNat (F (foldSet F f ts) l) := by
  unfold foldSet; rw [List.foldl_append]; rfl
theorem foldSet_len {α : Type} (F : List α → Int → α) : ∀ (f : List Int) (ts : List α), (foldSet F f ts).length = ts.length
  | [], _ => rfl
  | l :: r, ts => (foldSet_len F r _).trans List.length_set
theorem foldSet_keep {α : Type} (F : List α → Int → α) (d : α) (k : Nat) : ∀ (f : List Int) (ts : List α), (∀ l ∈ f, l.toNat ≠ k) → (foldSet F f ts).getD k d = ts.getD k d
  | [], _, _ => rfl
  | l :: r, ts, h => (foldSet_keep F d k r _ fun x hx => h x (List.mem_cons_of_mem _ hx)).trans (getD_set_ne (h l List.mem_cons_self))
theorem fold_law {α : Type} (d : α) {p : Plan} {f : List Int} (h : orderM p = .ok f) (F : List α → Int → α) (hF : ∀ ts ts' l, (∀ s ∈ (gateN p l).srcs, ts.getD s.toNat d = ts'.getD s.toNat d) → F ts l = F ts' l) {ts0 : List α} (hl0 : ts0.length = p.lines.toNat) :
    (∀ l : Int, 0 ≤ l → l < p.many → (foldSet F f ts0).getD l.toNat d = ts0.getD l.toNat d) ∧ ∀ l : Int, p.many ≤ l → l < p.lines → (foldSet F f ts0).getD l.toNat d = F (foldSet F f ts0) l := by
  obtain ⟨v, _, _⟩ := order_ok h
  obtain ⟨nd, hm⟩ := order_mem h
  have m0 := v.m0
  have pos : ∀ x ∈ f, 0 ≤ x := fun x hx => by have := ((hm x).mp hx).1; omega
  refine ⟨fun l l0 l1 => foldSet_keep F d _ f _ fun x hx => by have := ((hm x).mp hx).1; omega, fun l l0 l1 => ?_⟩
  obtain ⟨i, hi, hil⟩ := List.getElem_of_mem ((hm l).mpr ⟨l0, l1⟩)
  have hl : f[i]? = some l := by rw [List.getElem?_eq_getElem hi, hil]
  have hsp : f = f.take i ++ l :: f.drop (i + 1) := by
    have : f.drop i = l :: f.drop (i + 1) := by rw [List.drop_eq_getElem_cons hi, hil]
    rw [← this, List.take_append_drop]
  have nd2 := nd
  rw [hsp, List.nodup_append] at nd2
  obtain ⟨_, nd3, nd4⟩ := nd2
  obtain ⟨nd5, _⟩ := List.nodup_cons.mp nd3
  have e1 : foldSet F f ts0 = foldSet F (f.drop (i + 1)) ((foldSet F (f.take i) ts0).set l.toNat (F (foldSet F (f.take i) ts0) l)) := by
    conv => lhs; rw [hsp]
    unfold foldSet
    rw [List.foldl_append, List.foldl_cons]
  have restd : ∀ x ∈ f.drop (i + 1), 0 ≤ x := fun x hx => pos x (List.mem_of_mem_drop hx)
  have k1 : (foldSet F f ts0).getD l.toNat d = F (foldSet F (f.take i) ts0) l := by
    rw [e1, foldSet_keep F d _ _ _ fun x hx hxe => nd5 (by have := restd x hx; rw [show l = x by omega]; exact hx), getD_set_eq]
    rw [foldSet_len, hl0]; omega
  rw [k1]
  refine hF _ _ _ fun s hs => ?_
  obtain ⟨s0, s1, hd⟩ := order_srcs h hl s hs
  have ns : ∀ x ∈ l :: f.drop (i + 1), x.toNat ≠ s.toNat := fun x hx hxe => by
    have x0 : 0 ≤ x := by
      rcases List.mem_cons.mp hx with rfl | hx
      · omega
      · exact restd x hx
    rcases hd with hd | hd
    · have : p.many ≤ x := by
        rcases List.mem_cons.mp hx with rfl | hx
        · omega
        · exact ((hm x).mp (List.mem_of_mem_drop hx)).1
      omega
    · exact nd4 s hd x hx (by omega)
  rw [e1, foldSet_keep F d _ _ _ fun x hx => ns x (List.mem_cons_of_mem _ hx), getD_set_ne (ns l List.mem_cons_self)]
/-- what is told so is the only one -/
theorem fold_unique {α : Type} (d : α) {p : Plan} {f : List Int} (h : orderM p = .ok f) (F : List α → Int → α) (hF : ∀ ts ts' l, (∀ s ∈ (gateN p l).srcs, ts.getD s.toNat d = ts'.getD s.toNat d) → F ts l = F ts' l) {ts ws : List α}
    (hl1 : (ts.length : Int) = p.lines) (hl2 : (ws.length : Int) = p.lines) (hi : ∀ l : Int, 0 ≤ l → l < p.many → ts.getD l.toNat d = ws.getD l.toNat d)
    (h1 : ∀ l : Int, p.many ≤ l → l < p.lines → ts.getD l.toNat d = F ts l) (h2 : ∀ l : Int, p.many ≤ l → l < p.lines → ws.getD l.toNat d = F ws l) : ts = ws := by
  obtain ⟨nd, hm⟩ := order_mem h
  obtain ⟨v, _, _⟩ := order_ok h
  have m0 := v.m0
  have main : ∀ n (i : Nat) (l : Int), i < n → f[i]? = some l → ts.getD l.toNat d = ws.getD l.toNat d := by
    intro n
    induction n with
    | zero => intro i l hi; omega
    | succ n ih =>
      intro i l hi2 hl
      obtain ⟨a, b⟩ := (hm l).mp (List.mem_of_getElem? hl)
      rw [h1 l a b, h2 l a b]
      refine hF _ _ _ fun s hs => ?_
      obtain ⟨s0, s1, hd⟩ := order_srcs h hl s hs
      rcases hd with hd | hd
      · exact hi s s0 hd
      · obtain ⟨k, hk, hke⟩ := List.getElem_of_mem hd
        rw [List.length_take] at hk
        refine ih k s (by omega) ?_
        rw [List.getElem_take] at hke
        rw [List.getElem?_eq_getElem (by omega), hke]
  refine List.ext_getElem? fun k => ?_
  by_cases c : k < ts.length
  · have e : ts.getD k d = ws.getD k d := by
      by_cases c2 : (k : Int) < p.many
      · have := hi (k : Int) (by omega) c2
        rw [Int.toNat_natCast] at this; exact this
      · obtain ⟨i, hi3, hie⟩ := List.getElem_of_mem ((hm (k : Int)).mpr ⟨by omega, by omega⟩)
        have := main (i + 1) i (k : Int) (by omega) (by rw [List.getElem?_eq_getElem hi3, hie])
        rw [Int.toNat_natCast] at this; exact this
    rw [List.getD_eq_getElem?_getD, List.getD_eq_getElem?_getD, List.getElem?_eq_getElem c, List.getElem?_eq_getElem (by omega)] at e
    rw [List.getElem?_eq_getElem c, List.getElem?_eq_getElem (by omega)]
    exact congrArg some e
  · rw [List.getElem?_eq_none (by omega), List.getElem?_eq_none (by omega)]
/-! settled -/
def ansF (p : Plan) (vs : List Bool) (l : Int) : Bool := gateV (gateN p l) vs
theorem ansF_local (p : Plan) (ts ts' : List Bool) (l : Int) (h : ∀ s ∈ (gateN p l).srcs, ts.getD s.toNat false = ts'.getD s.toNat false) : ansF p ts l = ansF p ts' l := by
  unfold ansF gateV bitsOf
  rw [List.map_congr_left h]
def settleBy (p : Plan) (ins : List Bool) (f : List Int) : List Bool := foldSet (ansF p) f (ins ++ List.replicate p.gates.length false)
def settledR (p : Plan) (ins : List Bool) : Except Err (List Bool) := match errPlan p with
  | some e => .error e
  | none => if (ins.length : Int) ≠ p.many then .error .values else match orderM p with
    | .error e => .error e
    | .ok f => .ok (settleBy p ins f)
/-- a list of values of which each gate is answered -/
structure Solves (p : Plan) (ins vs : List Bool) : Prop where
  len : (vs.length : Int) = p.lines
  ins : ∀ l : Int, 0 ≤ l → l < p.many → vs.getD l.toNat false = ins.getD l.toNat false
  gat : ∀ l : Int, p.many ≤ l → l < p.lines → vs.getD l.toNat false = ansF p vs l
theorem settle_solves {p : Plan} {ins : List Bool} {f : List Int} (h : orderM p = .ok f) (hi : (ins.length : Int) = p.many) : Solves p ins (settleBy p ins f) := by
  have hl : (ins ++ List.replicate p.gates.length false).length = p.lines.toNat := by
    rw [List.length_append, List.length_replicate]; unfold Plan.lines; omega
  obtain ⟨v, _, _⟩ := order_ok h
  have m0 := v.m0
  obtain ⟨h1, h2⟩ := fold_law false h (ansF p) (ansF_local p) hl
  refine ⟨by unfold settleBy; rw [foldSet_len, hl]; unfold Plan.lines; omega, fun l l0 l1 => ?_, h2⟩
  unfold settleBy
  rw [h1 l l0 l1, List.getD_eq_getElem?_getD, List.getD_eq_getElem?_getD, List.getElem?_append_left (by omega)]
theorem solves_unique {p : Plan} {ins vs ws : List Bool} {f : List Int} (h : orderM p = .ok f) (h1 : Solves p ins vs) (h2 : Solves p ins ws) : vs = ws :=
  fold_unique false h (ansF p) (ansF_local p) h1.len h2.len (fun l l0 l1 => (h1.ins l l0 l1).trans (h2.ins l l0 l1).symm) h1.gat h2.gat
theorem settled_ok {p : Plan} {ins : List Bool} {f : List Int} (h : orderM p = .ok f) (hi : (ins.length : Int) = p.many) : settledR p ins = .ok (settleBy p ins f) := by
  obtain ⟨v, _, _⟩ := order_ok h
  unfold settledR
  rw [valid_iff.mpr v]
  simp only [hi, ne_eq, not_true_eq_false, if_false, h]
section
variable {K : PySem.W.Frag} {σ : L2.St} {G : Hp} {ta tb te tl : TE} {v : V} {xs : List V} {i j : Nat} {a s : Addr}
/-- [values[source] for source in sources] -/
theorem el_bits {vs : List Bool} {ss : List Int} (h : Ev tl σ G (.ref s)) (hs : SqT K G s (ss.map V.int)) (hz : ss.length ≤ 40000) (hv : SqL K G a (vs.map V.bl)) (hi : ∀ x, ((wipe σ [j]).set j (some x))[i]? = some (some (.ref a))) (hj : ∀ x, ((wipe σ [j]).set j (some x))[j]? = some (some x))
    (hw : ∀ x, wipe ((wipe σ [j]).set j (some x)) [j] = wipe σ [j]) (hr : ∀ x ∈ ss, 0 ≤ x ∧ x < vs.length) : EvL (tLc (iTup K tl) (gName j) tYes (tOp (rIxL K) (tVar i) (tVar j)) [j]) σ G ((bitsOf vs ss).map V.bl) := by
  unfold bitsOf
  rw [List.map_map]
  exact el_lcTA ss V.int _ h hs hz hw fun x hx => ev_op (ev_var (hi _)) (ev_var (hj _)) (rv_ixL hv (at_map V.bl vs false (hr x hx).1 (hr x hx).2))
theorem eap_VL (h : Ev ta σ G v) (h2 : EvL tb σ G xs) : EvAP (tCons ta (tCons tb tNil)) σ G fun vs G' => ∃ q, vs = [v, .ref q] ∧ G' q = some (.lst xs) := fun H e Q q =>
  h H e _ fun H1 e1 => h2 H1 (e.trans e1) _ fun p2 H2 _ e2 k2 => q [v, .ref p2] H2 H2 ((e.trans e1).trans e2) (Ex.refl _) (e1.trans e2) ⟨p2, rfl, k2⟩
end

/-! ### stepped -/
def pastOf (begin : List Bool) (states : List (List Bool)) (d : Int) : List Bool := if (states.length : Int) - d ≥ 0 then states.getD ((states.length : Int) - d).toNat [] else begin
def stateAt (p : Plan) (begin : List Bool) (states : List (List Bool)) (row : List Bool) : List Bool := row ++ p.gates.map fun g => gateV g (pastOf begin states g.delay)
def stepM (p : Plan) (begin : List Bool) (rows : List (List Bool)) : List (List Bool) := rows.foldl (fun states row => states ++ [stateAt p begin states row]) []
def steppedR (p : Plan) (begin : List Bool) (rows : List (List Bool)) : Except Err (List (List Bool)) := match errPlan p with
  | some e => .error e
  | none => if (begin.length : Int) ≠ p.lines then .error .values else if (rows.all fun r => decide ((r.length : Int) = p.many)) = false then .error .values else .ok (stepM p begin rows)
theorem stepM_snoc (p : Plan) (begin : List Bool) (rows : List (List Bool)) (row : List Bool) : stepM p begin (rows ++ [row]) = stepM p begin rows ++ [stateAt p begin (stepM p begin rows) row] := by
  unfold stepM; rw [List.foldl_append]; rfl
theorem stepM_len (p : Plan) (begin : List Bool) : ∀ n (rows : List (List Bool)), rows.length = n → (stepM p begin rows).length = n := fun n => by
  induction n with
  | zero => intro rows h; rw [List.length_eq_zero_iff.mp h]; rfl
  | succ n ih =>
    intro rows h
    have hne : rows ≠ [] := by rintro rfl; simp at h
    rw [← List.dropLast_concat_getLast hne, stepM_snoc, List.length_append, ih _ (by rw [List.length_dropLast]; omega)]
    rfl
theorem stepM_get (p : Plan) (begin : List Bool) : ∀ n (rows : List (List Bool)), rows.length = n → ∀ (t : Nat) (r : List Bool), rows[t]? = some r → (stepM p begin rows)[t]? = some (stateAt p begin ((stepM p begin rows).take t) r) := fun n => by
  induction n with
  | zero => intro rows h t r hr; rw [List.length_eq_zero_iff.mp h] at hr; simp at hr
  | succ n ih =>
    intro rows h t r hr
    have hne : rows ≠ [] := by rintro rfl; simp at h
    have hd := List.dropLast_concat_getLast hne
    have hl : rows.dropLast.length = n := by rw [List.length_dropLast]; omega
    have hl2 := stepM_len p begin n _ hl
    rw [← hd, stepM_snoc]
    by_cases c : t < n
    · rw [List.getElem?_append_left (by rw [hl2]; exact c), List.take_append_of_le_length (by rw [hl2]; omega)]
      refine ih _ hl t r ?_
      rw [← hd, List.getElem?_append_left (by rw [hl]; exact c)] at hr
      exact hr
    · have ht : t < rows.length := (List.getElem?_eq_some_iff.mp hr).1
      have e : t = n := by omega
      subst e
      rw [List.getElem?_append_right (by rw [hl2]; exact Nat.le_refl _), hl2, Nat.sub_self, List.take_append_of_le_length (by rw [hl2]; exact Nat.le_refl _), List.take_of_length_le (by rw [hl2]; exact Nat.le_refl _)]
      rw [← hd, List.getElem?_append_right (by rw [hl]; exact Nat.le_refl _), hl, Nat.sub_self] at hr
      have : rows.getLast hne = r := by simpa using hr
      rw [this]; rfl
theorem stateAt_len (p : Plan) (begin : List Bool) (states : List (List Bool)) {row : List Bool} (h : (row.length : Int) = p.many) : ((stateAt p begin states row).length : Int) = p.lines := by
  unfold stateAt Plan.lines
  rw [List.length_append, List.length_map]; omega
theorem stepM_rows {p : Plan} {begin : List Bool} {rows : List (List Bool)} (h : ∀ r ∈ rows, (r.length : Int) = p.many) : ∀ st ∈ stepM p begin rows, ((st.length : Nat) : Int) = p.lines := fun st hst => by
  obtain ⟨t, ht, he⟩ := List.getElem_of_mem hst
  have hl := stepM_len p begin _ rows rfl
  have hr : rows[t]? = some rows[t] := List.getElem?_eq_getElem (by omega)
  have := stepM_get p begin _ rows rfl t _ hr
  rw [List.getElem?_eq_getElem ht, he] at this
  rw [Option.some.inj this]
  exact stateAt_len _ _ _ (h _ (List.getElem_mem _))
theorem stepped_ok {p : Plan} {begin : List Bool} {rows : List (List Bool)} (v : Valid p) (hb : (begin.length : Int) = p.lines) (h : ∀ r ∈ rows, (r.length : Int) = p.many) : steppedR p begin rows = .ok (stepM p begin rows) := by
  unfold steppedR
  have : (rows.all fun r => decide ((r.length : Int) = p.many)) = true := List.all_eq_true.mpr fun r hr => decide_eq_true (h r hr)
  rw [valid_iff.mpr v, this]
  simp [hb]
/-! values in the heap -/
def BitsAt (K : PySem.W.Frag) (G : Hp) (v : V) (bs : List Bool) : Prop := ∃ a, v = .ref a ∧ SqL K G a (bs.map V.bl)
theorem BitsAt.mono {K : PySem.W.Frag} {G G' : Hp} {v : V} {bs : List Bool} (e : Ex G G') (h : BitsAt K G v bs) : BitsAt K G' v bs := by
  obtain ⟨a, rfl, h⟩ := h
  exact ⟨a, rfl, ex_l e h⟩
/-- new lists, none of them the list at q -/
def NewBits (H : Hp) (q : Addr) (G : Hp) (v : V) (bs : List Bool) : Prop := ∃ a, v = .ref a ∧ a ≠ q ∧ H a = none ∧ G a = some (.lst (bs.map V.bl))
theorem NewBits.mono {H : Hp} {q : Addr} {G G' : Hp} {v : V} {bs : List Bool} (e : Ex G G') (h : NewBits H q G v bs) : NewBits H q G' v bs := by
  obtain ⟨a, rfl, h1, h2, h3⟩ := h
  exact ⟨a, rfl, h1, h2, e _ _ h3⟩
theorem NewBits.put {H : Hp} {q : Addr} {G : Hp} {v : V} {bs : List Bool} {o : HO} (h : NewBits H q G v bs) : NewBits H q (upd G q o) v bs := by
  obtain ⟨a, rfl, h1, h2, h3⟩ := h
  exact ⟨a, rfl, h1, h2, by rw [upd_ne h1]; exact h3⟩
theorem NewBits.at {K : PySem.W.Frag} {H : Hp} {q : Addr} {G : Hp} {v : V} {bs : List Bool} (h : NewBits H q G v bs) : BitsAt K G v bs := by
  obtain ⟨a, rfl, _, _, h3⟩ := h
  exact ⟨a, rfl, sq_of h3⟩
/-- a new list of new lists -/
def StatesR (H : Hp) (v : V) (H' : Hp) (sts : List (List Bool)) : Prop := ∃ q zs, v = .ref q ∧ H q = none ∧ H' q = some (.lst zs) ∧ Rows (NewBits H q H') zs sts ∧ zs.Nodup

/-! ### the laws' smaller plans -/
def smallCount (far : Int) (large : Bool) : Int := if large = true ∧ far % 8 = 3 then 90 + far / 8 % 99 else if far % 8 = 1 then 10 + far / 8 % 31 else 0
theorem smallCount_in (far : Int) (large : Bool) : 0 ≤ smallCount far large ∧ smallCount far large ≤ 188 := by
  unfold smallCount
  split
  · omega
  · split <;> omega
def smallGate (far many most k : Int) : Gate := if far % 8 = 1 ∧ many + k > 0 then ⟨"not", [many + k - 1], 1 + k % most⟩ else gateBy (far / 8 + 5 * k) (many + k) most
def smallGates (far many most : Int) : Nat → List Gate
  | 0 => []
  | k + 1 => smallGates far many most k ++ [smallGate far many most k]
theorem smallGates_len (far many most : Int) : ∀ n, (smallGates far many most n).length = n
  | 0 => rfl
  | n + 1 => by rw [smallGates, List.length_append, smallGates_len far many most n]; rfl
theorem good_small {far many most : Int} (hm : 0 ≤ many) (h0 : 0 < most) (h1 : most ≤ 60) : ∀ n, Good many (smallGates far many most n)
  | 0 => good_nil many
  | n + 1 => by
    rw [smallGates]
    refine good_snoc (good_small hm h0 h1 n) ?_
    rw [smallGates_len]
    unfold smallGate
    split
    · rename_i c
      have a := Int.emod_nonneg (n : Int) (show most ≠ 0 by omega)
      have b := Int.emod_lt_of_pos (n : Int) h0
      exact good_not hm (fun h => by have := c.2; omega) ⟨by omega, by omega⟩
    · exact good_gateBy hm h0 h1
def smallList (ns : List Int) (most : Int) (large : Bool) : List Gate := addGates (manyOf (cell ns 0)) most (smallGates (cell ns 1) (manyOf (cell ns 0)) most (smallCount (cell ns 1) large).toNat) ((ns.drop 3).take 12)
def smallP (ns : List Int) (most : Int) (large : Bool) : Plan := turnedM (manyOf (cell ns 0)) (smallList ns most large) (cell ns 2)
theorem smallList_len (ns : List Int) (most : Int) (large : Bool) : (smallList ns most large).length ≤ 200 := by
  unfold smallList
  have := smallCount_in (cell ns 1) large
  rw [addGates_len, smallGates_len, List.length_take]
  omega
theorem good_smallList {ns : List Int} {most : Int} {large : Bool} (h0 : 0 < most) (h1 : most ≤ 60) : Good (manyOf (cell ns 0)) (smallList ns most large) := by
  obtain ⟨m0, m1⟩ := manyOf_in (cell ns 0)
  exact good_add m0 h0 h1 _ _ (good_small m0 h0 h1 _)
theorem small_ok {ns : List Int} {most : Int} {large : Bool} (h0 : 0 < most) (h1 : most ≤ 60) : Valid (smallP ns most large) ∧ Free (smallP ns most large) ∧ ∀ g ∈ (smallP ns most large).gates, PyData.strOk g.kind = true := by
  obtain ⟨m0, m1⟩ := manyOf_in (cell ns 0)
  have hg := good_smallList (ns := ns) (large := large) h0 h1
  exact ⟨turned_valid m0 m1 (smallList_len _ _ _) hg, turned_free m0 hg, turned_str hg⟩

/-! ### late times, the laws' way -/
def optI : Option Int → V
  | none => .non
  | some l => .int l
theorem inV_opts (os : List (Option Int)) : inV .non (os.map optI) = os.any Option.isNone := by
  unfold inV
  induction os with
  | nil => rfl
  | cons o r ih =>
    rw [List.map_cons, List.any_cons, List.any_cons, ih]
    cases o <;> rfl
theorem flat_opts (os : List (Option Int)) : (os.map optI).all flatV = true := by
  rw [List.all_eq_true]
  intro v hv
  obtain ⟨i, _, rfl⟩ := List.mem_map.mp hv
  cases i <;> rfl
/-- what is known so far of the numbers L -/
structure KnownInv (L : List Int) (p : Plan) (os : List (Option Int)) : Prop where
  len : (os.length : Int) = p.lines
  inp : ∀ i : Nat, (i : Int) < p.many → os.getD i none = some (L.getD i 0)
  eq : ∀ (i : Nat) x, os.getD i none = some x → x = L.getD i 0
/-- the gate's turn -/
def knowStep (p : Plan) (os : List (Option Int)) (l : Int) : List (Option Int) :=
  if os.getD l.toNat none = none ∧ ((gateN p l).srcs.map fun s => os.getD s.toNat none).any Option.isNone = false then
    os.set l.toNat (some (if (gateN p l).srcs = [] then 0 else (gateN p l).delay + maxOr 0 ((gateN p l).srcs.map fun s => (os.getD s.toNat none).getD 0)))
  else os
theorem know_step {p : Plan} {f : List Int} {os : List (Option Int)} {l : Int} (ho : orderM p = .ok f) (h : KnownInv (lateBy p f) p os) (l0 : p.many ≤ l) (l1 : l < p.lines) :
    KnownInv (lateBy p f) p (knowStep p os l) ∧ (∀ i : Nat, (os.getD i none).isSome = true → ((knowStep p os l).getD i none).isSome = true) ∧ ((∀ s ∈ (gateN p l).srcs, (os.getD s.toNat none).isSome = true) → ((knowStep p os l).getD l.toNat none).isSome = true) := by
  obtain ⟨v, _, _⟩ := order_ok ho
  have m0 := v.m0
  have hl := h.len
  unfold knowStep
  by_cases c : os.getD l.toNat none = none ∧ ((gateN p l).srcs.map fun s => os.getD s.toNat none).any Option.isNone = false
  · rw [if_pos c]
    have hlt : l.toNat < os.length := by omega
    have hkn : ∀ s ∈ (gateN p l).srcs, ∃ x, os.getD s.toNat none = some x ∧ x = (lateBy p f).getD s.toNat 0 := fun s hs => by
      have := List.any_eq_false.mp c.2 (os.getD s.toNat none) (List.mem_map.mpr ⟨s, hs, rfl⟩)
      cases e : os.getD s.toNat none with
      | none => rw [e] at this; exact absurd rfl this
      | some x => exact ⟨x, rfl, h.eq _ _ e⟩
    have hd : (if (gateN p l).srcs = [] then 0 else (gateN p l).delay + maxOr 0 ((gateN p l).srcs.map fun s => (os.getD s.toNat none).getD 0)) = (lateBy p f).getD l.toNat 0 := by
      have e := late_law ho (l := l) (by omega) l1
      rw [if_neg (show ¬ l < p.many by omega)] at e
      rw [e]
      unfold dueOf
      have : ((gateN p l).srcs.map fun s => (os.getD s.toNat none).getD 0) = (gateN p l).srcs.map fun s => (lateBy p f).getD s.toNat 0 := List.map_congr_left fun s hs => by
        obtain ⟨x, h1, h2⟩ := hkn s hs
        rw [h1, h2]; rfl
      rw [this]
    rw [hd]
    refine ⟨⟨by rw [List.length_set]; exact hl, fun i hi => ?_, fun i x hx => ?_⟩, fun i hi => ?_, fun _ => ?_⟩
    · rw [getD_set_ne (by omega)]; exact h.inp i hi
    · by_cases e : l.toNat = i
      · subst e
        rw [getD_set_eq hlt] at hx
        exact (Option.some.inj hx).symm
      · rw [getD_set_ne e] at hx; exact h.eq i x hx
    · by_cases e : l.toNat = i
      · subst e; rw [getD_set_eq hlt]; rfl
      · rw [getD_set_ne e]; exact hi
    · rw [getD_set_eq hlt]; rfl
  · rw [if_neg c]
    refine ⟨h, fun i hi => hi, fun hs => ?_⟩
    cases e : os.getD l.toNat none with
    | some x => rfl
    | none =>
      refine absurd ⟨e, ?_⟩ c
      rw [List.any_eq_false]
      intro o ho
      obtain ⟨s, hs2, rfl⟩ := List.mem_map.mp ho
      have := hs s hs2
      cases e2 : os.getD s.toNat none with
      | none => rw [e2] at this; cases this
      | some x => simp
theorem know_all {p : Plan} {f : List Int} {os : List (Option Int)} (ho : orderM p = .ok f) (h : KnownInv (lateBy p f) p os) (hk : ∀ l ∈ f, (os.getD l.toNat none).isSome = true) : os = (lateBy p f).map some := by
  obtain ⟨v, _, _⟩ := order_ok ho
  obtain ⟨_, hm⟩ := order_mem ho
  have m0 := v.m0
  have hl := h.len
  have hll := lateBy_len p f
  refine List.ext_getElem? fun i => ?_
  by_cases c : i < os.length
  · have hs : (os.getD i none).isSome = true := by
      by_cases c2 : (i : Int) < p.many
      · rw [h.inp i c2]; rfl
      · have := hk (i : Int) ((hm _).mpr ⟨by omega, by omega⟩)
        rw [Int.toNat_natCast] at this; exact this
    cases e : os.getD i none with
    | none => rw [e] at hs; cases hs
    | some x =>
      have hx := h.eq i x e
      rw [List.getD_eq_getElem?_getD, List.getElem?_eq_getElem c] at e
      have e : os[i] = some x := e
      rw [List.getElem?_eq_getElem c, e, List.getElem?_map, List.getElem?_eq_getElem (by omega), hx, List.getD_eq_getElem?_getD, List.getElem?_eq_getElem (by omega)]
      rfl
  · rw [List.getElem?_eq_none (by omega), List.getElem?_eq_none (by rw [List.length_map]; omega)]
theorem known0 {p : Plan} {f : List Int} (ho : orderM p = .ok f) : KnownInv (lateBy p f) p (List.replicate p.many.toNat (some 0) ++ List.replicate p.gates.length none) := by
  obtain ⟨v, _, _⟩ := order_ok ho
  have m0 := v.m0
  refine ⟨by rw [List.length_append, List.length_replicate, List.length_replicate]; unfold Plan.lines; omega, fun i hi => ?_, fun i x hx => ?_⟩
  · have hlw := late_law ho (l := (i : Int)) (by omega) (by unfold Plan.lines; omega)
    rw [if_pos hi, Int.toNat_natCast] at hlw
    rw [hlw, List.getD_eq_getElem?_getD, List.getElem?_append_left (by rw [List.length_replicate]; omega), List.getElem?_replicate, if_pos (by omega)]
    rfl
  · by_cases c : i < p.many.toNat
    · have hlw := late_law ho (l := (i : Int)) (by omega) (by unfold Plan.lines; omega)
      rw [if_pos (by omega), Int.toNat_natCast] at hlw
      rw [List.getD_eq_getElem?_getD, List.getElem?_append_left (by rw [List.length_replicate]; omega), List.getElem?_replicate, if_pos c] at hx
      rw [hlw]
      exact (Option.some.inj hx).symm
    · rw [List.getD_eq_getElem?_getD, List.getElem?_append_right (by rw [List.length_replicate]; omega), List.getElem?_replicate] at hx
      split at hx <;> cases hx
/-! the states stay -/
theorem maxOr_mem {d : Int} : ∀ {ns : List Int} {y : Int}, y ∈ ns → y ≤ maxOr d ns
  | [], _, h => by cases h
  | n :: r, y, h => (maxOr_spec (n := n) r).2 y h
theorem late_bound {p : Plan} {f : List Int} (ho : orderM p = .ok f) : ∀ n (i : Nat) (l : Int), i < n → f[i]? = some l → (lateBy p f).getD l.toNat 0 ≤ 60 * ((i : Int) + 1) := fun n => by
  obtain ⟨v, _, _⟩ := order_ok ho
  obtain ⟨_, hm⟩ := order_mem ho
  have m0 := v.m0
  induction n with
  | zero => intro i l hi; omega
  | succ n ih =>
    intro i l hi hl
    obtain ⟨a, b⟩ := (hm l).mp (List.mem_of_getElem? hl)
    rw [late_law ho (by omega) b, if_neg (by omega)]
    unfold dueOf
    split
    · omega
    · rename_i hne
      obtain ⟨_, hgm⟩ := gateN_get a b
      obtain ⟨_, _, hd1, hd2⟩ := gate_ok (v.gate _ hgm)
      have hmx : maxOr 0 ((gateN p l).srcs.map fun s => (lateBy p f).getD s.toNat 0) ≤ 60 * (i : Int) := by
        obtain ⟨s, r, hsr⟩ := List.exists_cons_of_ne_nil (show ((gateN p l).srcs.map fun s => (lateBy p f).getD s.toNat 0) ≠ [] by simpa using hne)
        have hmem := (maxOr_spec (n := s) r).1
        rw [hsr]
        rw [← hsr] at hmem
        obtain ⟨s', hs', he⟩ := List.mem_map.mp hmem
        rw [hsr] at he
        rw [← he]
        obtain ⟨s0, s1, hd⟩ := order_srcs ho hl s' hs'
        rcases hd with hd | hd
        · rw [late_law ho s0 s1, if_pos hd]; omega
        · obtain ⟨k, hk, hke⟩ := List.getElem_of_mem hd
          rw [List.length_take] at hk
          rw [List.getElem_take] at hke
          have := ih k s' (by omega) (by rw [List.getElem?_eq_getElem (by omega), hke])
          omega
      omega
theorem late_max {p : Plan} {f : List Int} (ho : orderM p = .ok f) : ∀ y ∈ lateBy p f, y ≤ 12000 := fun y hy => by
  obtain ⟨v, hf, hfl⟩ := order_ok ho
  obtain ⟨_, hm⟩ := order_mem ho
  have m0 := v.m0
  obtain ⟨k, hk, hke⟩ := List.getElem_of_mem hy
  have hkl := hk
  rw [lateBy_len] at hkl
  have e : (lateBy p f).getD ((k : Int)).toNat 0 = y := by
    rw [Int.toNat_natCast, List.getD_eq_getElem?_getD, List.getElem?_eq_getElem hk, hke]; rfl
  by_cases c : (k : Int) < p.many
  · rw [late_law ho (by omega) (by omega), if_pos c] at e; omega
  · obtain ⟨i, hi, hie⟩ := List.getElem_of_mem ((hm (k : Int)).mpr ⟨by omega, by omega⟩)
    have := late_bound ho (i + 1) i (k : Int) (by omega) (by rw [List.getElem?_eq_getElem hi, hie])
    have hn := v.n200
    rw [hf] at hi
    omega
/-- from its late time on a line has its settled value -/
theorem quiet_state {p : Plan} {f : List Int} {ins begin : List Bool} {n : Nat} (ho : orderM p = .ok f) (hi : (ins.length : Int) = p.many) : ∀ m (i : Nat) (l : Int), i < m → f[i]? = some l → ∀ t : Nat, t < n → (lateBy p f).getD l.toNat 0 ≤ (t : Int) →
    ((stepM p begin (List.replicate n ins)).getD t []).getD l.toNat false = (settleBy p ins f).getD l.toNat false := fun m => by
  obtain ⟨v, hf, hfl⟩ := order_ok ho
  obtain ⟨_, hm⟩ := order_mem ho
  have m0 := v.m0
  have hS := settle_solves ho hi
  have hlenst := stepM_len p begin n (List.replicate n ins) List.length_replicate
  have hget : ∀ t : Nat, t < n → (stepM p begin (List.replicate n ins)).getD t [] = stateAt p begin ((stepM p begin (List.replicate n ins)).take t) ins := fun t ht => by
    have := stepM_get p begin n (List.replicate n ins) List.length_replicate t ins (by rw [List.getElem?_replicate, if_pos ht])
    rw [List.getD_eq_getElem?_getD, this]; rfl
  have hinp : ∀ t : Nat, t < n → ∀ l : Int, 0 ≤ l → l < p.many → ((stepM p begin (List.replicate n ins)).getD t []).getD l.toNat false = (settleBy p ins f).getD l.toNat false := fun t ht l l0 l1 => by
    rw [hS.ins l l0 l1, hget t ht]
    unfold stateAt
    rw [List.getD_eq_getElem?_getD, List.getElem?_append_left (by omega), ← List.getD_eq_getElem?_getD]
  induction m with
  | zero => intro i l hi; omega
  | succ m ih =>
    intro i l him hl t ht hlate
    obtain ⟨a, b⟩ := (hm l).mp (List.mem_of_getElem? hl)
    obtain ⟨hg, hgm⟩ := gateN_get a b
    obtain ⟨_, _, hd1, hd2⟩ := gate_ok (v.gate _ hgm)
    have e1 : ((stepM p begin (List.replicate n ins)).getD t []).getD l.toNat false = gateV (gateN p l) (pastOf begin ((stepM p begin (List.replicate n ins)).take t) (gateN p l).delay) := by
      rw [hget t ht]
      unfold stateAt
      rw [List.getD_eq_getElem?_getD, List.getElem?_append_right (by omega), List.getElem?_map, show l.toNat - ins.length = (l - p.many).toNat by omega, hg]
      rfl
    rw [e1, hS.gat l a b]
    unfold ansF gateV
    congr 1
    unfold bitsOf
    refine List.map_congr_left fun s hs => ?_
    rw [late_law ho (by omega) b, if_neg (by omega)] at hlate
    unfold dueOf at hlate
    have hne : (gateN p l).srcs ≠ [] := fun e => by rw [e] at hs; cases hs
    rw [if_neg hne] at hlate
    obtain ⟨s0, s1, hd⟩ := order_srcs ho hl s hs
    have hsm : (lateBy p f).getD s.toNat 0 ≤ maxOr 0 ((gateN p l).srcs.map fun s => (lateBy p f).getD s.toNat 0) := by
      obtain ⟨x, r, hxr⟩ := List.exists_cons_of_ne_nil (show ((gateN p l).srcs.map fun s => (lateBy p f).getD s.toNat 0) ≠ [] by simpa using hne)
      rw [hxr]
      refine (maxOr_spec (n := x) r).2 _ ?_
      rw [← hxr]
      exact List.mem_map.mpr ⟨s, hs, rfl⟩
    have hs0 : 0 ≤ (lateBy p f).getD s.toNat 0 := by
      rw [List.getD_eq_getElem?_getD]
      cases e : (lateBy p f)[s.toNat]? with
      | none => exact Int.le_refl _
      | some y => exact late_pos v f y (List.mem_of_getElem? e)
    have hlt : ((stepM p begin (List.replicate n ins)).take t).length = t := by rw [List.length_take]; omega
    have hpast : pastOf begin ((stepM p begin (List.replicate n ins)).take t) (gateN p l).delay = (stepM p begin (List.replicate n ins)).getD ((t : Int) - (gateN p l).delay).toNat [] := by
      unfold pastOf
      rw [hlt, if_pos (by omega), List.getD_eq_getElem?_getD, List.getElem?_take, if_pos (by omega), ← List.getD_eq_getElem?_getD]
    rw [hpast]
    rcases hd with hd | hd
    · exact hinp _ (by omega) s s0 hd
    · obtain ⟨k, hk, hke⟩ := List.getElem_of_mem hd
      rw [List.length_take] at hk
      rw [List.getElem_take] at hke
      exact ih k s (by omega) (by rw [List.getElem?_eq_getElem (by omega), hke]) _ (by omega) (by omega)
/-- .. any line -/
theorem quiet_any {p : Plan} {f : List Int} {ins begin : List Bool} {n t : Nat} {l : Int} (ho : orderM p = .ok f) (hi : (ins.length : Int) = p.many) (l0 : 0 ≤ l) (l1 : l < p.lines) (ht : t < n) (hl : (lateBy p f).getD l.toNat 0 ≤ (t : Int)) :
    ((stepM p begin (List.replicate n ins)).getD t []).getD l.toNat false = (settleBy p ins f).getD l.toNat false := by
  obtain ⟨_, hm⟩ := order_mem ho
  by_cases c : l < p.many
  · have hS := settle_solves ho hi
    have := stepM_get p begin n (List.replicate n ins) List.length_replicate t ins (by rw [List.getElem?_replicate, if_pos ht])
    have hg : (stepM p begin (List.replicate n ins)).getD t [] = stateAt p begin ((stepM p begin (List.replicate n ins)).take t) ins := by
      rw [List.getD_eq_getElem?_getD, this]; rfl
    rw [hS.ins l l0 c, hg]
    unfold stateAt
    rw [List.getD_eq_getElem?_getD, List.getElem?_append_left (by omega), ← List.getD_eq_getElem?_getD]
  · obtain ⟨i, hi2, hie⟩ := List.getElem_of_mem ((hm l).mpr ⟨by omega, l1⟩)
    exact quiet_state ho hi (i + 1) i l (by omega) (by rw [List.getElem?_eq_getElem hi2, hie]) t ht hl
theorem quiet_last {p : Plan} {f : List Int} {ins begin : List Bool} {n t : Nat} (ho : orderM p = .ok f) (hi : (ins.length : Int) = p.many) (ht : t < n) (hl : maxOr 0 (lateBy p f) ≤ (t : Int)) : (stepM p begin (List.replicate n ins)).getD t [] = settleBy p ins f := by
  obtain ⟨v, _, _⟩ := order_ok ho
  have hS := settle_solves ho hi
  have hlen : (((stepM p begin (List.replicate n ins)).getD t []).length : Int) = p.lines := by
    have hlt : t < (stepM p begin (List.replicate n ins)).length := by rw [stepM_len p begin n _ List.length_replicate]; exact ht
    rw [List.getD_eq_getElem?_getD, List.getElem?_eq_getElem hlt]
    exact stepM_rows (fun r hr => by rw [List.eq_of_mem_replicate hr]; exact hi) _ (List.getElem_mem hlt)
  have hsl := hS.len
  refine List.ext_getElem? fun k => ?_
  by_cases c : k < (settleBy p ins f).length
  · have hle : (lateBy p f).getD k 0 ≤ (t : Int) := by
      rw [List.getD_eq_getElem?_getD]
      have hk : k < (lateBy p f).length := by rw [lateBy_len]; omega
      rw [List.getElem?_eq_getElem hk]
      have := maxOr_mem (d := 0) (List.getElem_mem hk)
      show (lateBy p f)[k] ≤ _
      omega
    have q := quiet_any (begin := begin) (l := (k : Int)) ho hi (by omega) (by omega) ht (by rw [Int.toNat_natCast]; exact hle)
    rw [Int.toNat_natCast, List.getD_eq_getElem?_getD (l := settleBy p ins f), List.getD_eq_getElem?_getD (l := (stepM p begin (List.replicate n ins)).getD t []), List.getElem?_eq_getElem c, List.getElem?_eq_getElem (show k < ((stepM p begin (List.replicate n ins)).getD t []).length by omega)] at q
    rw [List.getElem?_eq_getElem c, List.getElem?_eq_getElem (by omega)]
    exact congrArg some q
  · rw [List.getElem?_eq_none (by omega), List.getElem?_eq_none (by omega)]

/-! ### more: lists of lists, calls with arguments made on the way -/
section
variable {K : PySem.W.Frag} {σ : L2.St} {G H : Hp} {ta tb te tl : TE} {tA : TA} {j : Nat} {vs : List Nat} {sp : Sp} {E : L2.St → XK} {v : V} {xs ys : List V} {a : Addr}
theorem EvAP.imp {P R : List V → Hp → Prop} (h : EvAP tA σ G P) (i : ∀ vs G', Ex G G' → P vs G' → R vs G') : EvAP tA σ G R := fun H e Q q => h H e Q fun v G' H' g1 g2 e1 p => q v G' H' g1 g2 e1 (i v G' g1 p)
theorem el_callP {A : List V → Hp → Prop} (h : EvAP tA σ G A) (hs : ∀ vs G', Ex G G' → A vs G' → SpL sp vs G' xs) : EvL (tCallS sp E tA) σ G xs := fun H e Q q =>
  h H e _ fun vs G1 H1 g1 g2 e1 p => hs vs G1 g1 p H1 g2 Q (fun p H2 hp e2 h2 => q p H2 (e1.none hp) (e1.trans e2) h2) (E σ)
theorem eap_LV (h : EvL ta σ G xs) (h2 : Ev tb σ G v) : EvAP (tCons ta (tCons tb tNil)) σ G fun vs G' => ∃ q, vs = [.ref q, v] ∧ G' q = some (.lst xs) := fun H e Q q =>
  h H e _ fun p H1 _ e1 h1 => h2 H1 (e.trans e1) _ fun H2 e2 => q [.ref p, v] H2 H2 ((e.trans e1).trans e2) (Ex.refl _) (e1.trans e2) ⟨p, rfl, e2 _ _ h1⟩
theorem eap_PL {P : V → Hp → Prop} (h : EvP ta σ G P) (h2 : ∀ G', Ex G G' → EvL tb σ G' xs) : EvAP (tCons ta (tCons tb tNil)) σ G fun vs G' => ∃ v q G1, vs = [v, .ref q] ∧ P v G1 ∧ Ex G G1 ∧ Ex G1 G' ∧ G' q = some (.lst xs) := fun H e Q q =>
  h H e _ fun v G1 H1 g1 g2 e1 p => h2 G1 g1 H1 g2 _ fun p2 H2 _ e2 k2 => q [v, .ref p2] H2 H2 (g1.trans (g2.trans e2)) (Ex.refl _) (e1.trans e2) ⟨v, p2, G1, rfl, p, g1, g2.trans e2, k2⟩
theorem ev_maxV {ns : List Int} (h : Ev ta σ G (.ref a)) (hs : SqL K G a (ns.map V.int)) (h0 : 0 < ns.length) : Ev (tCB (rMax K) (tCons ta tNil)) σ G (.int (maxOr 0 ns)) := fun H e Q q =>
  h H e _ fun H1 e1 => ⟨a, ns, rfl, ex_l (e.trans e1) hs, h0, fun m hm hu => by rw [maxOr_un (d := 0) hm hu]; exact q H1 e1⟩
theorem ev_maxDefV {ns : List Int} {d : Int} (h : Ev ta σ G (.ref a)) (hs : SqL K G a (ns.map V.int)) (h2 : Ev tb σ G (.int d)) : Ev (tCKw (rMaxDef K) (tCons ta tNil) (tCons tb tNil)) σ G (.int (maxOr d ns)) := fun H e Q q =>
  h H e _ fun H1 e1 => h2 H1 (e.trans e1) _ fun H2 e2 => ⟨a, ns, d, rfl, rfl, ex_l ((e.trans e1).trans e2) hs, q H2 (e1.trans e2)⟩
def Cn (H : Hp) (bs : List (List Bool)) (Dl : Addr) (i : Nat) (H' : Hp) : Prop := H Dl = none ∧ Ex H H' ∧ ∃ ws, H' Dl = some (.lst ws) ∧ Rows (NewBits H Dl H') ws (bs.take i)
/-- [new list for k in range(n)] -/
theorem ep_lcLR {n : Int} (f : Int → List Bool) (h : EvA tA σ G [.int n]) (hn : 0 ≤ n ∧ n ≤ 40000) (hw : ∀ x, wipe ((wipe σ vs).set j (some x)) vs = wipe σ vs)
    (he : ∀ k : Int, 0 ≤ k → k < n → EvL te ((wipe σ vs).set j (some (.int k))) G ((f k).map V.bl)) : EvP (tLc (iRng1 tA) (gName j) tYes te vs) σ G fun v G' => ∃ q ws, v = .ref q ∧ G q = none ∧ G' q = some (.lst ws) ∧ Rows (NewBits G q G') ws ((List.range n.toNat).map fun i : Nat => f (i : Int)) := fun H0 e Q q => h H0 e _ fun H1 e1 =>
  ⟨n, rfl, by omega, by omega, fun Dl hD => lc_range (lo := 0) (n := n.toNat) (Cn H1 ((List.range n.toNat).map fun i : Nat => f (i : Int)) Dl) ⟨hD, Ex.new hD, [], upd_same, rows_nil⟩
    (fun i H' hi p => by
      have e0 : (0 : Int) + (i : Int) = (i : Int) := Int.zero_add _
      show wipe ((wipe σ vs).set j (some (.int ((0 : Int) + (i : Int))))) vs = wipe σ vs ∧ te ((wipe σ vs).set j (some (.int ((0 : Int) + (i : Int))))) H' fun y H4 => ∃ acc, H4 Dl = some (.lst acc) ∧ acc.length < sizeLine ∧ Cn H1 ((List.range n.toNat).map fun i : Nat => f (i : Int)) Dl (i + 1) (upd H4 Dl (.lst (acc ++ [y])))
      rw [e0]
      obtain ⟨p1, p2, ws, p3, p4⟩ := p
      refine ⟨hw _, he (i : Int) (by omega) (by omega) H' ((e.trans e1).trans p2) _ fun y H4 hy e4 h4 => ⟨ws, e4 _ _ p3, sz_lt (by have := p4.1; rw [List.length_take] at this; omega), p1, Ex.mut (p2.trans e4) p1, ws ++ [.ref y], upd_same, ?_⟩⟩
      have nD : y ≠ Dl := fun e5 => by rw [e5, p3] at hy; cases hy
      rw [List.take_add_one, List.getElem?_map, List.getElem?_range hi]
      show Rows _ _ (_ ++ [f (i : Int)])
      exact rows_snoc (rows_imp p4 fun _ _ r => (r.mono e4).put) ⟨y, rfl, nD, p2.none hy, by rw [upd_ne nD]; exact h4⟩)
    (fun H' ⟨p1, p2, ws, p3, p4⟩ => q (.ref Dl) H' H' ((e.trans e1).trans p2) (Ex.refl _) (e1.trans p2) ⟨Dl, ws, rfl, (e.trans e1).none p1, p3, by
      rw [List.take_of_length_le (by rw [List.length_map, List.length_range]; exact Nat.le_refl _)] at p4
      exact rows_imp p4 fun _ _ ⟨a, r1, r2, r3, r4⟩ => ⟨a, r1, r2, (e.trans e1).none r3, r4⟩⟩)⟩
end
section
variable {K : PySem.W.Frag} {σ : L2.St} {G H : Hp} {te tl : TE} {j : Nat} {vs : List Nat} {a : Addr}
/-- [new list for x in xs], xs a list of lists that stands -/
theorem ep_lcLX {ws : List V} {rows : List (List Bool)} (h : Ev tl σ G (.ref a)) (hx : SqL K G a ws) (hR : Rows (BitsAt K G) ws rows) (hz : rows.length ≤ 40000) (hw : ∀ x, wipe ((wipe σ vs).set j (some x)) vs = wipe σ vs)
    (he : ∀ w bs, BitsAt K G w bs → EvL te ((wipe σ vs).set j (some w)) G (bs.map V.bl)) : EvP (tLc (iList K tl) (gName j) tYes te vs) σ G fun v G' => ∃ q ws', v = .ref q ∧ G q = none ∧ G' q = some (.lst ws') ∧ Rows (NewBits G q G') ws' rows := fun H0 e Q q => h H0 e _ fun H1 e1 =>
  ⟨a, rfl, ⟨_, ex_l (e.trans e1) hx⟩, fun Dl hD => lc_list (xs := ws) (Cn H1 rows Dl) ⟨hD, Ex.new hD, [], upd_same, rows_nil⟩ (fun i H' _ p => ex_l ((e.trans e1).trans p.2.1) hx)
    (fun i x H' hi p => by
      obtain ⟨bs, hb, hba⟩ := rows_get' hR hi
      have hil := (List.getElem?_eq_some_iff.mp hb).1
      show wipe ((wipe σ vs).set j (some x)) vs = wipe σ vs ∧ te ((wipe σ vs).set j (some x)) H' fun y H4 => ∃ acc, H4 Dl = some (.lst acc) ∧ acc.length < sizeLine ∧ Cn H1 rows Dl (i + 1) (upd H4 Dl (.lst (acc ++ [y])))
      obtain ⟨p1, p2, zs, p3, p4⟩ := p
      refine ⟨hw _, he x bs hba H' ((e.trans e1).trans p2) _ fun y H4 hy e4 h4 => ⟨zs, e4 _ _ p3, sz_lt (by have := p4.1; rw [List.length_take] at this; omega), p1, Ex.mut (p2.trans e4) p1, zs ++ [.ref y], upd_same, ?_⟩⟩
      have nD : y ≠ Dl := fun e5 => by rw [e5, p3] at hy; cases hy
      rw [List.take_add_one, hb]
      show Rows _ _ (_ ++ [bs])
      exact rows_snoc (rows_imp p4 fun _ _ r => (r.mono e4).put) ⟨y, rfl, nD, p2.none hy, by rw [upd_ne nD]; exact h4⟩)
    (fun H' ⟨p1, p2, zs, p3, p4⟩ => q (.ref Dl) H' H' ((e.trans e1).trans p2) (Ex.refl _) (e1.trans p2) ⟨Dl, zs, rfl, (e.trans e1).none p1, p3, by
      rw [List.take_of_length_le (by rw [hR.1]; exact Nat.le_refl _)] at p4
      exact rows_imp p4 fun _ _ ⟨a, r1, r2, r3, r4⟩ => ⟨a, r1, r2, (e.trans e1).none r3, r4⟩⟩)⟩
end

section
open PySem.Spec PyProof.Rows
/-! ### a def that is called in an except suite, with the exception -/
structure FnE (P : Program) (w : World) (K : PySem.W.Frag) (mg : Str → Option Value) (base : Heap) (CX : CXT) (k : Nat) (f : Addr) (fd : FuncData) (ps : List Str) (sp : Addr → Value → Option Addr → Sp) : Prop where
  len : ∀ a cls d vs H Q E, sp a cls d vs H Q E → vs.length = ps.length
  run : ∀ (A : Around) (outer : List Env) (s : Shared) (H : Hp) (args : Args) (us : List Value) (vs : List V) (Q : VK) (E : XK) (a : Addr) (oe : Obj) (cls : Value) (d : Option Addr), L2H.RoomH k A → L2H.PinOk outer H s (a, oe) → Zc cls d oe → (∃ vs, oe.data = .fields vs) →
    Env0 P w K mg base A outer s H → BindsTo s fd args (ps.zip us) → Vals vs us → sp a cls d vs H Q E → codeAny (model P w) A (.call (.ref f) args) (CR CX outer P w H s Q E) s
theorem fn_ofE {CX : CXT} {P : Program} {w : World} {K : PySem.W.Frag} {mg : Str → Option Value} {base : Heap} {k : Nat} {f : Addr} {name qual : Str} {params : Arguments} {body : List Stmt} {scope : Scope} {dV kV doc pm cdv ct oc : Value} {an od : Option Addr}
    {osl : Array (Option Value)} {N ps : List Str} {sp : Addr → Value → Option Addr → Sp} (lk : K.lookup f = some ⟨oc, od, .func (PySem.W.fnOf name qual params body scope dV kV doc pm an cdv ct), osl⟩) (hcd : PySem.W.codeIn K cdv qual = true) (S : FnScope N ps scope)
    (len : ∀ a cls d vs H Q E, sp a cls d vs H Q E → vs.length = ps.length)
    (hbody : ∀ (A : Around) (outer : List Env) (s : Shared) (H : Hp) (vs : List V) (Q : VK) (E : XK) (a : Addr) (oe : Obj) (cls : Value) (d : Option Addr), Zc cls d oe → (∃ vs, oe.data = .fields vs) → L2H.RoomH k (A.deeper (envOfC qual scope s.heap.objs.size f cdv)) → sp a cls d vs H Q E →
      ∃ t, PSs (L2H.cxH CX P w K mg base N qual scope f cdv A outer s H E (a, oe)) body t ∧ t { nx := fun _ H' => Q .non H', rt := Q } (L2.start N vs) H) :
    FnE P w K mg base CX (k + 1) f (PySem.W.fnOf name qual params body scope dV kV doc pm an cdv ct) ps sp := by
  refine ⟨len, fun A outer s H args us vs Q E a oe cls d hr hpin hz hf e0 hb r hsp => ?_⟩
  have hl := len _ _ _ _ _ _ _ hsp
  have KX : K.In s.heap := e0.mod.kin.keeps fun b o e => (e0.bs b o e).1
  have lim : s.heap.NoLimit := e0.mod.nolimit.keeps fun b o e => (e0.bs b o e).1
  have hkind : ∀ y ∈ ps.zip us, scope.names.lookup y.1 = some .local ∨ (scope.names.lookup y.1 = some .cell ∧ ((cellsFrom (s.heap.objs.size + 1) scope.names []).lookup y.1).isSome = true) := fun ⟨n, v⟩ hy => by
    rcases S.par n (List.of_mem_zip hy).1 with q | q
    · exact .inl q
    · exact .inr ⟨q, PySem.W.cellsFrom_some _ _ _ (.inl q)⟩
  refine codeAny_call_function hr.depth (KX _ _ lk) rfl S.co S.gen rfl (PySem.W.codeRec_of KX hcd) (hb _ _ _ _ ?_)
  refine wpAny_newFunctionEnv_cells S.kind hkind fun env he s1 x => ?_
  subst he
  refine ⟨lim.keeps x.toInCall.keep, codeAny_func ?_⟩
  obtain ⟨t, ht, hq⟩ := hbody A outer s H vs Q E a oe cls d hz hf (hr.deeper _) hsp
  have I : Inv (L2H.cxH CX P w K mg base N qual scope f cdv A outer s H E (a, oe)) [] (L2.start N vs) H s1 := L2H.inv_startH S hpin e0 hl r x
  refine wpAny_mono (ht.run [] s1 (L2.start N vs) H _ I hq) (fun fl s' hs => ?_) fun e s' hs => hs
  have fin : ∀ {σ' : L2.St} {H' : Hp} {v : V} {u : Value}, Inv (L2H.cxH CX P w K mg base N qual scope f cdv A outer s H E (a, oe)) [] σ' H' s' → RelV v u → Q v H' → CE outer P w H s Q u s' :=
    fun {σ' H' v u} J rv q => ⟨v, H', J.os, J.bare, J.base, J.hok, rv, q⟩
  cases fl with
  | ret u =>
    obtain ⟨v, σ', H', J, rv, q⟩ := hs
    exact fin J rv q
  | next =>
    obtain ⟨σ', H', J, q⟩ := hs
    exact fin (v := V.non) (u := Value.none) J rfl q
  | brk =>
    obtain ⟨_, _, _, q⟩ := hs
    exact False.elim q
  | cont =>
    obtain ⟨_, _, _, q⟩ := hs
    exact False.elim q
theorem Fun.okE {P : Program} {w : World} {K : PySem.W.Frag} {mg : Str → Option Value} {base : Heap} {x qual : Str} {st : Stmt} {f : Addr} {fd : FuncData} {N ps : List Str} {k : Nat} {sp : Addr → Value → Option Addr → Sp} (F : Fun K x qual st f fd) (S : FnScope N ps (defScope st)) (len : ∀ a cls d vs H Q E, sp a cls d vs H Q E → vs.length = ps.length)
    (hbody : ∀ (cdv : Value) (A : Around) (outer : List Env) (s : Shared) (H : Hp) (vs : List V) (Q : VK) (E : XK) (a : Addr) (oe : Obj) (cls : Value) (d : Option Addr), Zc cls d oe → (∃ vs, oe.data = .fields vs) → L2H.RoomH k (A.deeper (envOfC qual (defScope st) s.heap.objs.size f cdv)) → sp a cls d vs H Q E →
      ∃ t, PSs (L2H.cxH (L2.CX P w) P w K mg base N qual (defScope st) f cdv A outer s H E (a, oe)) (defBody st) t ∧ t { nx := fun _ H' => Q .non H', rt := Q } (L2.start N vs) H) : FnE P w K mg base (L2.CX P w) (k + 1) f fd ps sp := by
  obtain ⟨oc, od, kV, doc, pm, an, cdv, ct, osl, rfl, lk, hcd⟩ := F.ex
  exact fn_ofE lk hcd S len fun A outer s H vs Q E a oe cls d hz hf hr hsp => hbody cdv A outer s H vs Q E a oe cls d hz hf hr hsp
structure CalE (P : Program) (w : World) (K : PySem.W.Frag) (mg : Str → Option Value) (base : Heap) (k : Nat) (x : Str) (sp : Addr → Value → Option Addr → Sp) : Prop where
  ex : ∃ (f : Addr) (fd : FuncData) (ps : List Str), FnE P w K mg base (L2.CX P w) k f fd ps sp ∧ mg x = some (.ref f) ∧ PySem.W.keepIn K (.ref f) = true ∧ Binds K fd ps []
section
variable {X : Cx} {k : Nat} {f : Addr} {fd : FuncData} {ps : List Str} {sp : Addr → Value → Option Addr → Sp} {E : L2.St → XK} {x : Str} {q pos : Pos} {e : Expr} {es : List Expr} {t : TA} {a : Addr} {oe : Obj} {cls : Value} {d : Option Addr}
theorem run_fnE {pins : List (Addr × Obj)} {σ : L2.St} {H : Hp} {s : Shared} {Q : VK} {us : List Value} {vs : List V} (F : FnE X.prog X.w X.K X.mg X.base (L2.CX X.prog X.w) k f fd ps sp) (hr : L2H.RoomH k X.A) (hp : (a, oe) ∈ X.pn) (hz : Zc cls d oe) (hf : ∃ vs, oe.data = .fields vs) (hb : Binds X.K fd ps []) (hx : PassesAt (L2.CX X.prog X.w) X σ (E σ))
    (I : Inv X pins σ H s) (r : Vals vs us) (h : sp a cls d vs H Q (E σ)) : wpAny (model X.prog X.w) X.A (call (.ref f) us) (EP X pins σ Q) X.xe s := by
  have hl : us.length = ps.length := by rw [← r.length]; exact F.len _ _ _ _ _ _ _ h
  have b := hb s us I.kIn (by rw [List.append_nil]; exact hl)
  rw [List.append_nil] at b
  have P1 := I.pin (a, oe) (List.mem_append_left _ hp)
  have hpin : L2H.PinOk X.stack H s (a, oe) := ⟨P1.1, P1.2.1, fun hm => (List.mem_cons.mp (I.stkSub a hm)).elim P1.2.2.1 P1.2.2.2.1, P1.2.2.2.2⟩
  refine wpAny_call (codeAny_mono (F.run X.A X.stack s H ⟨us, []⟩ us vs Q (E σ) a oe cls d hr hpin hz hf I.env0 b r h) fun r s' hq => ?_)
  cases r with
  | error e => exact hx pins H s e s' I hq
  | ok fl =>
    cases fl with
    | ret u => exact I.after hq
    | next => exact False.elim hq
    | brk => exact False.elim hq
    | cont => exact False.elim hq
end
end
section
variable {X : Cx} {k j : Nat} {x : Str} {sp : Addr → Value → Option Addr → Sp} {W : WX} {p pos : Pos} {e : Expr} {es : List Expr} {t : TA} {a : Addr} {oe : Obj} {cls : Value} {d : Option Addr}
/-- the call within the suite -/
theorem pe_ce (c : CalE X.prog X.w X.K X.mg X.base k x sp) (hr : L2H.RoomH j X.A) (hk : k ≤ j) (hp : (a, oe) ∈ X.pn) (hz : Zc cls d oe) (hf : ∃ vs, oe.data = .fields vs) (hg : Gl X x) (tk : Takes X W) (ht : PA X (e :: es) t)
    (hdb : (x == ("__debug__" : Str)) = false := by decide) (he : starEach (e :: es) X.env = (false, eval e X.env) :: starEach es X.env := by rfl) (hpl : (backTo pos (starEach es X.env)).any (·.1) = false := by rfl) :
    PE X (.Call (.Name x p) (e :: es) [] pos) (tCallS (sp a cls d) (WE W) t) := by
  obtain ⟨f, fd, ps, F, hm, hkp, hb⟩ := c.ex
  refine ⟨fun pins s σ H Q I h => ?_⟩
  refine wpAny_Call_Name_kw (ld_glob I hg hm ?_ hdb)
  refine PySem.W.callWith_K (h₀ := X.base) I.ok.mod.kin hkp (thn (ht.run pos pins s σ H _ I h) fun us s1 ⟨vs, H1, I1, r, q⟩ => ⟨I1.kIn, ?_⟩) he hpl
  exact run_fnE F (hr.mono hk) hp hz hf hb (passAt tk σ) I1 r q
/-- isinstance of the exception that is handled, in a def that is called there -/
theorem call_isP (K : PySem.W.Frag) (hz : Zc cls d oe) (hf : ∃ vs, oe.data = .fields vs) (hp : (a, oe) ∈ X.pn) (h : X.K = K := by rfl) : CallR X (.builtin "isinstance") (rIsX K cls d a) := by
  subst h
  intro pins s σ H xs us Q I r h
  obtain ⟨C, rfl, rfl, hC, c, cv, b, rfl, hcv, e, q⟩ := h
  cases r with
  | cons rx rr =>
    cases rr with
    | cons rt rr =>
      cases rr
      cases rx
      have ec := hcv _ rt
      subst ec
      obtain ⟨hget, _⟩ := I.pin (a, oe) (List.mem_append.mpr (.inl hp))
      obtain ⟨vs, hv⟩ := hf
      have J : PySem.W.InstAt s.heap a oe C none := by
        obtain ⟨oc, od, oda, osl⟩ := oe
        obtain ⟨h1, h2⟩ := hz
        dsimp only at h1 h2 hv
        subst h1 h2 hv
        exact ⟨hget, rfl, rfl, trivial⟩
      exact PySem.W.kia_one (PySem.W.handS_kitx_exc hC.hg hC.hk hC.hs hC.hd hC.ha hC.hn hC.ht hC.hm) I.kIn J e (fun z => nomatch z) fun tk => ⟨.bl b, H, I.kept (t' := tk) fun _ _ z => z, rfl, q⟩
theorem calE_of {P : Program} {w : World} {K : PySem.W.Frag} {mg : Str → Option Value} {base : Heap} {k : Nat} {x qual : Str} {st : Stmt} {ps : List Str} {sp : Addr → Value → Option Addr → Sp} (d : DefAt K mg x qual st ps)
    (h : ∀ {f : Addr} {fd : FuncData}, Fun K x qual st f fd → FnE P w K mg base (L2.CX P w) k f fd ps sp) : CalE P w K mg base k x sp := by
  obtain ⟨f, fd, F, hm, hb, _⟩ := d.ex
  exact ⟨f, fd, ps, h F, hm, F.kp, hb⟩
end
theorem roomH_mark {k : Nat} {A : Around} {h : Option Value} (r : Room k A) : L2H.RoomH k (A.mark h) := ⟨r.dp, r.un⟩
def errWord : Err → Str
  | .size => "size" | .kind => "kind" | .sources => "sources" | .line => "line" | .delay => "delay" | .values => "values" | .ringed => "ring" | .deed => "deed" | .text => "text"
def errs : List Err := [.size, .kind, .sources, .line, .delay, .values, .ringed, .deed, .text]
def wordsTo (x : Err) (n : Nat) : List Str := ((errs.take n).filter fun y => decide (x = y)).map errWord

/-! ### rows of values as data; longer ones -/
def rowsD (rows : List (List Bool)) : PyData := .list (rows.map fun r => .list (r.map .bool))
theorem BitsAt.dp {K : PySem.W.Frag} {G : Hp} {v : V} {bs : List Bool} (h : BitsAt K G v bs) : Dp K G v (.list (bs.map .bool)) := by
  obtain ⟨a, rfl, h⟩ := h
  exact .lst h (dpAll_map _ _ bs fun b _ => .bl b)
theorem rows_dp {K : PySem.W.Frag} {G : Hp} {a : Addr} {ws : List V} {rows : List (List Bool)} (h : SqL K G a ws) (hR : Rows (BitsAt K G) ws rows) : Dp K G (.ref a) (rowsD rows) := .lst h (dpAll_rows _ (fun _ _ r => r.dp) hR)
theorem rowD_lay (r : List Bool) : (PyData.list (r.map PyData.bool)).canLay0 = true := by
  rw [PyData.canLay0, canLayAll_map _ _ fun _ _ => by simp [PyData.canLay0]]
theorem rowD_deep (r : List Bool) : (PyData.list (r.map PyData.bool)).depth ≤ 2 := by
  have := depthAll_map PyData.bool 0 r fun _ _ => by simp [PyData.depth]
  simp only [PyData.depth]
  omega
theorem rowsD_shaped (rows : List (List Bool)) : SeqAt.shaped (rowsD rows) = true := by
  unfold SeqAt.shaped rowsD
  have := depthAll_map (fun r : List Bool => PyData.list (r.map PyData.bool)) 2 rows fun r _ => rowD_deep r
  rw [PyData.canLay0, canLayAll_map _ _ fun r _ => rowD_lay r]
  simp only [PyData.depth]
  simp
  omega
theorem stepped_begin {p : Plan} {begin : List Bool} {rows : List (List Bool)} (v : Valid p) (hb : ¬ (begin.length : Int) = p.lines) : steppedR p begin rows = .error .values := by
  unfold steppedR
  rw [valid_iff.mpr v]
  simp only [ne_eq, hb, not_false_eq_true, if_true]
theorem stepped_row {p : Plan} {begin : List Bool} {rows : List (List Bool)} (v : Valid p) {r : List Bool} (hr : r ∈ rows) (h : ¬ (r.length : Int) = p.many) : steppedR p begin rows = .error .values := by
  unfold steppedR
  rw [valid_iff.mpr v]
  have h4 : (rows.all fun r => decide ((r.length : Int) = p.many)) = false := List.all_eq_false.mpr ⟨r, hr, by simpa using h⟩
  simp only [h4]
  split <;> rfl

/-! ### an own class: made, its fields, its methods -/
def tMakeX (C : Addr) (sp : Sp) (E : L2.St → XK) (t : TA) : TE := fun σ H Q => t σ H fun vs G => ∀ x dx, G x = none → G dx = none → dx ≠ x → sp (.ref x :: vs) (upd (upd G dx (.own x)) x (.ins C dx [])) (fun v G2 => v = .non ∧ Q (.ref x) G2) (E σ)
def tMethX (C : Addr) (m : Str) (sp : Sp) (E : L2.St → XK) (ta : TE) (t : TA) : TE := fun σ H Q => ta σ H fun x G => ∃ a dx fs, x = .ref a ∧ G a = some (.ins C dx fs) ∧ fs.lookup m = none ∧ t σ G fun vs G2 => sp (x :: vs) G2 Q (E σ)
structure MakX (P : Program) (w : World) (K : PySem.W.Frag) (mg : Str → Option Value) (base : Heap) (k : Nat) (x : Str) (C : Addr) (sp : Sp) : Prop where
  ex : ∃ (f : Addr) (fd : FuncData) (ps : List Str), Mk K C f ∧ FnOk P w K mg base (L2.CX P w) k f fd ps sp ∧ mg x = some (.ref C) ∧ Binds K fd ps []
structure MetX (P : Program) (w : World) (K : PySem.W.Frag) (mg : Str → Option Value) (base : Heap) (k : Nat) (C : Addr) (m : Str) (sp : Sp) : Prop where
  ex : ∃ (f : Addr) (fd : FuncData) (ps : List Str), Cls K C ∧ Meth K C m f ∧ FnOk P w K mg base (L2.CX P w) k f fd ps sp ∧ Binds K fd ps []
section
open PySem.Spec PyProof.Rows
variable {X : Cx} {k j : Nat} {f C : Addr} {fd : FuncData} {ps : List Str} {sp : Sp} {E : XK} {W : WX} {x m : Str} {p pos apos : Pos} {e o : Expr} {es : List Expr} {ta : TE} {t : TA}
theorem run_mkx {pins : List (Addr × Obj)} {σ : L2.St} {G : Hp} {s : Shared} {Q : VK} {us : List Value} {vs : List V} (M : Mk X.K C f) (F : FnOk X.prog X.w X.K X.mg X.base (L2.CX X.prog X.w) k f fd ps sp) (hr : Room (k + 1) X.A) (hb : Binds X.K fd ps []) (hx : PassesAt (L2.CX X.prog X.w) X σ E)
    (I : Inv X pins σ G s) (r : Vals vs us) (h : ∀ y dy, G y = none → G dy = none → dy ≠ y → sp (.ref y :: vs) (upd (upd G dy (.own y)) y (.ins C dy [])) (fun v G2 => v = .non ∧ Q (.ref y) G2) E) : wpAny (model X.prog X.w) X.A (call (.ref C) us) (EP X pins σ Q) X.xe s := by
  have n1 : G (s.heap.objs.size + 1) = none := I.hok.fresh (Nat.le_succ _)
  have n2 : G s.heap.objs.size = none := I.hok.fresh (Nat.le_refl _)
  have J := Inv.made (C := C) I
  have q := h _ _ n1 n2 (Nat.ne_of_lt (Nat.lt_succ_self _))
  have r2 : Vals (V.ref (s.heap.objs.size + 1) :: vs) (Value.ref (s.heap.objs.size + 1) :: us) := .cons rfl r
  have hl : (Value.ref (s.heap.objs.size + 1) :: us).length = ps.length := r2.length.symm.trans (F.len _ _ _ _ q)
  have b := hb _ (Value.ref (s.heap.objs.size + 1) :: us) J.kIn (by rw [List.append_nil]; exact hl)
  rw [List.append_nil] at b
  refine wpAny_call (make_map (f := f) I.kIn M.makes M.init (beq_iff_eq.mp M.fn) (codeAny_mono (F.run _ X.stack _ _ _ (Value.ref (s.heap.objs.size + 1) :: us) _ _ E (hr.make C us []) (J.env0.make C us []) b r2 q) fun z s2 hz => ?_))
  rcases z with z | z
  · exact hx pins _ _ z s2 J hz
  · cases z with
    | ret u =>
      obtain ⟨_, G3, J3, rv, ⟨rfl, q3⟩⟩ := J.after hz
      exact ⟨rv, V.ref (s.heap.objs.size + 1), G3, J3, rfl, q3⟩
    | next => exact False.elim hz
    | brk => exact False.elim hz
    | cont => exact False.elim hz
theorem pe_mkx (c : MakX X.prog X.w X.K X.mg X.base k x C sp) (hr : Room j X.A) (hk : k + 1 ≤ j) (hg : Gl X x) (tk : Takes X W) (ht : PA X (e :: es) t)
    (hdb : (x == ("__debug__" : Str)) = false := by decide) (he : starEach (e :: es) X.env = (false, eval e X.env) :: starEach es X.env := by rfl) (hpl : (backTo pos (starEach es X.env)).any (·.1) = false := by rfl) :
    PE X (.Call (.Name x p) (e :: es) [] pos) (tMakeX C sp (WE W) t) := by
  obtain ⟨f, fd, ps, M, F, hm, hb⟩ := c.ex
  refine ⟨fun pins s σ G Q I h => wpAny_Call_Name_kw (ld_glob I hg hm ?_ hdb)⟩
  exact PySem.W.callWith_K (h₀ := X.base) I.ok.mod.kin M.kp (thn (ht.run pos pins s σ G _ I h) fun us s1 ⟨vs, G1, I1, r, q⟩ => ⟨I1.kIn, run_mkx M F (hr.mono hk) hb (passAt tk σ) I1 r q⟩) he hpl
theorem pe_mx {pl : Sem Bool} (c : MetX X.prog X.w X.K X.mg X.base k C m sp) (hr : Room j X.A) (hk : k ≤ j) (tk : Takes X W) (he : PE X o ta) (ha : PA X (e :: es) t)
    (hst : starEach (e :: es) X.env = (false, eval e X.env) :: starEach es X.env := by rfl) (hpl : (backTo pos (starEach es X.env)).any (·.1) = false := by rfl)
    (ht : eval (.Call (.Attribute o m apos) (e :: es) [] pos) X.env = (eval o X.env >>= fun ov => standAt apos.atName >>= fun _ => holding [ov] (getMethod ov m pl) >>= fun (f, first) => callWith pos f first (backTo pos (starEach (e :: es) X.env)) (backToKw pos (keywordEach [] X.env))) := by rfl) :
    PE X (.Call (.Attribute o m apos) (e :: es) [] pos) (tMethX C m sp (WE W) ta t) := by
  obtain ⟨f, fd, ps, cl, hm, F, hb⟩ := c.ex
  refine ⟨fun pins s σ G Q I h => PySem.W.methodCall_KW (pl := pl) (thn (he.run pins s σ G _ I h) fun u s1 hh => ?_) ht⟩
  obtain ⟨y, G1, I1, ry, a, dx, fs, rfl, ea, l, q⟩ := hh
  obtain rfl : u = Value.ref a := ry
  refine getmeth_ok I1 ea cl hm l (PySem.W.callWith_K (first := [.ref a]) (h₀ := X.base) I.ok.mod.kin hm.kp (thn (ha.run pos pins s1 σ G1 _ I1 q) fun us s2 hh => ?_) hst hpl)
  obtain ⟨vs, G2, I2, r, q2⟩ := hh
  exact ⟨I2.kIn, run_fnS (us := .ref a :: us) (vs := .ref a :: vs) F (hr.mono hk) hb (passAt tk σ) I2 (.cons rfl r) q2⟩
theorem pe_mx0 {pl : Sem Bool} (c : MetX X.prog X.w X.K X.mg X.base k C m sp) (hr : Room j X.A) (hk : k ≤ j) (tk : Takes X W) (he : PE X o ta)
    (ht : eval (.Call (.Attribute o m apos) [] [] pos) X.env = (eval o X.env >>= fun ov => standAt apos.atName >>= fun _ => holding [ov] (getMethod ov m pl) >>= fun (f, first) => callWith pos f first (backTo pos (starEach [] X.env)) (backToKw pos (keywordEach [] X.env))) := by rfl) :
    PE X (.Call (.Attribute o m apos) [] [] pos) (tMethX C m sp (WE W) ta tNil) := by
  obtain ⟨f, fd, ps, cl, hm, F, hb⟩ := c.ex
  refine ⟨fun pins s σ G Q I h => PySem.W.methodCall_KW (pl := pl) (thn (he.run pins s σ G _ I h) fun u s1 hh => ?_) ht⟩
  obtain ⟨y, G1, I1, ry, a, dx, fs, rfl, ea, l, q⟩ := hh
  obtain rfl : u = Value.ref a := ry
  exact getmeth_ok I1 ea cl hm l (PySem.W.callWith_K0 (first := [.ref a]) I1.kIn hm.kp (run_fnS (us := [.ref a]) (vs := [.ref a]) F (hr.mono hk) hb (passAt tk σ) I1 (.cons rfl .nil) q))
end
/-! where they stand -/
structure MethAt (K : PySem.W.Frag) (C : Addr) (m qual : Str) (st : Stmt) (ps : List Str) : Prop where
  ex : ∃ (f : Addr) (fd : FuncData), Fun K m qual st f fd ∧ Meth K C m f ∧ Binds K fd ps []
theorem meth_at {K : PySem.W.Frag} {C : Addr} {x qual : Str} {st : Stmt} {ps : List Str} {f : Addr} {oc : Value} {od an : Option Addr} {osl : Array (Option Value)} {kV doc pm cdv ct : Value}
    (a : PySem.W.findIn K (.ref C) x = some (some (.ref f))) (i : PySem.W.isFn K (.ref f) = true) (l : K.lookup f = some ⟨oc, od, .func (PySem.W.fnOf x qual (defArgs st) (defBody st) (defScope st) .none kV doc pm an cdv ct), osl⟩) (c : PySem.W.codeIn K cdv qual = true) (k : PySem.W.keepIn K (.ref f) = true)
    (b : ∀ (kV doc pm : Value) (an : Option Addr) (cdv ct : Value) (us : List Value), us.length = ps.length → bindArgs (PySem.W.fnOf x qual (defArgs st) (defBody st) (defScope st) .none kV doc pm an cdv ct) ⟨us, []⟩ = pure (ps.zip us)) : MethAt K C x qual st ps :=
  ⟨f, _, fun_mk l c k, ⟨a, i, k⟩, (fun_mk l c k).binds b⟩
section
variable {P : Program} {w : World} {K : PySem.W.Frag} {mg : Str → Option Value} {base : Heap} {k : Nat} {C : Addr} {x m qual : Str} {st : Stmt} {ps : List Str} {sp : Sp}
theorem metX_of (c : Cls K C) (d : MethAt K C m qual st ps) (h : ∀ {f : Addr} {fd : FuncData}, Fun K m qual st f fd → FnOk P w K mg base (L2.CX P w) k f fd ps sp) : MetX P w K mg base k C m sp := by
  obtain ⟨f, fd, F, hm, hb⟩ := d.ex
  exact ⟨f, fd, ps, c, hm, h F, hb⟩
theorem makX_of (hg : mg x = some (.ref C)) (mk : PySem.W.makesIn K C = true) (kc : PySem.W.keepIn K (.ref C) = true) (d : MethAt K C "__init__" qual st ps) (h : ∀ {f : Addr} {fd : FuncData}, Fun K "__init__" qual st f fd → FnOk P w K mg base (L2.CX P w) k f fd ps sp) : MakX P w K mg base k x C sp := by
  obtain ⟨f, fd, F, hm, hb⟩ := d.ex
  exact ⟨f, fd, ps, ⟨mk, hm.at_, hm.fn, kc⟩, h F, hg, hb⟩
end
/-! fields -/
section
variable {K : PySem.W.Frag} {σ : L2.St} {G H : Hp} {ta tv : TE} {x v : V} {D : Ends} {tz : TS} {a C dx : Addr} {fs : List (Str × V)} {f m : Str} {xs : List V}
theorem ev_fld (h : Ev ta σ G (.ref a)) (hl : G a = some (.ins C dx fs)) (c : Cls K C) (n : NoAttr K C f) (l : fs.lookup f = some v) : Ev (tFld K ta f) σ G v := fun H e Q q => h H e _ fun H1 e1 => ⟨a, C, dx, fs, v, rfl, e1 _ _ (e _ _ hl), c, n, l, q H1 e1⟩
theorem go_fldP {P : V → Hp → Prop} (h : EvP tv σ G P) (ho : ∀ G', Ex G G' → Ev ta σ G' (.ref a)) (hl : G a = some (.ins C dx fs)) (c : Cls K C) (n : NoAttr K C f) (hz : fs.length < 1000) (k : ∀ v G', Ex G G' → P v G' → Go tz D σ (upd G' a (.ins C dx (putF f v fs)))) :
    Go (tSeq (sFld K ta tv f) tz) D σ G := fun H e => h H e _ fun v G' H1 g1 g2 e1 p => ho G' g1 H1 g2 _ fun H2 e2 => ⟨a, C, dx, fs, rfl, e2 _ _ (g2 _ _ (g1 _ _ hl)), c, n, hz, k v G' g1 p _ (Ex.put (g2.trans e2))⟩
theorem go_fldV (h : Ev tv σ G v) (ho : Ev ta σ G (.ref a)) (hl : G a = some (.ins C dx fs)) (c : Cls K C) (n : NoAttr K C f) (hz : fs.length < 1000) (k : Go tz D σ (upd G a (.ins C dx (putF f v fs)))) : Go (tSeq (sFld K ta tv f) tz) D σ G :=
  go_fldP (P := fun x G' => x = v ∧ G' = G) (EvP.of h) (fun _ e => ho.mono e) hl c n hz fun v' G' _ ⟨e1, e2⟩ => by subst e1 e2; exact k
theorem go_fldF (h : EvF tv σ G) : Go (tSeq (sFld K ta tv f) tz) D σ G := fun H e => h H e _
/-- C(..): what __init__ brings about, of a new object at x that G does not know -/
theorem ep_mkx {sp : Sp} {E : L2.St → XK} {tA : TA} {vs : List V} {P : V → Hp → Prop} (h : EvA tA σ G vs)
    (hs : ∀ x dx, G x = none → G dx = none → dx ≠ x → ∀ H0, Ex G H0 → H0 x = none → H0 dx = none → ∀ Q : VK, (∀ G' H', Ex G G' → Ex G' H' → Ex H0 H' → P (.ref x) G' → Q .non H') → sp (.ref x :: vs) (upd (upd H0 dx (.own x)) x (.ins C dx [])) Q (E σ)) :
    EvP (tMakeX C sp E tA) σ G P := fun H e Q q => h H e _ fun H1 e1 x dx hx hd nd => hs x dx ((e.trans e1).none hx) ((e.trans e1).none hd) nd H1 (e.trans e1) hx hd _ fun G' H' g1 g2 e2 p => ⟨rfl, q _ G' H' g1 g2 (e1.trans e2) p⟩
theorem ef_mkx {sp : Sp} {E : L2.St → XK} {tA : TA} {vs : List V} (h : EvA tA σ G vs)
    (hs : ∀ x dx, G x = none → G dx = none → dx ≠ x → ∀ H0, Ex G H0 → H0 x = none → H0 dx = none → ∀ Q : VK, sp (.ref x :: vs) (upd (upd H0 dx (.own x)) x (.ins C dx [])) Q (E σ)) :
    EvF (tMakeX C sp E tA) σ G := fun H e Q => h H e _ fun H1 e1 x dx hx hd nd => hs x dx ((e.trans e1).none hx) ((e.trans e1).none hd) nd H1 (e.trans e1) hx hd _
end
/-! the board's fields -/
def bf (h g ps l : Addr) (m : Int) : List (Str × V) := [("held", .ref h), ("many", .int m), ("gates", .ref g), ("past", .ref ps), ("last", .ref l)]
theorem bf_ne : ¬ (("held" : Str) = "many") ∧ ¬ (("held" : Str) = "gates") ∧ ¬ (("held" : Str) = "past") ∧ ¬ (("held" : Str) = "last") ∧ ¬ (("many" : Str) = "gates") ∧ ¬ (("many" : Str) = "past") ∧ ¬ (("many" : Str) = "last") ∧ ¬ (("gates" : Str) = "past") ∧ ¬ (("gates" : Str) = "last") ∧ ¬ (("past" : Str) = "last") := by decide +kernel
section
variable {h h2 g g2 ps ps2 l l2 : Addr} {m : Int}
theorem bf_mk : putF "last" (.ref l) (putF "past" (.ref ps) (putF "gates" (.ref g) (putF "many" (.int m) (putF "held" (.ref h) [])))) = bf h g ps l m := by
  obtain ⟨a1, a2, a3, a4, a5, a6, a7, a8, a9, a10⟩ := bf_ne
  simp only [putF, bf, if_neg a1, if_neg a2, if_neg a3, if_neg a4, if_neg a5, if_neg a6, if_neg a7, if_neg a8, if_neg a9, if_neg a10]
theorem bf_held : (bf h g ps l m).lookup ("held" : Str) = some (V.ref h) := by
  obtain ⟨a1, a2, a3, a4, a5, a6, a7, a8, a9, a10⟩ := bf_ne
  rw [← bf_mk]
  simp only [lookup_putF, if_neg a1, if_neg a2, if_neg a3, if_neg a4, if_true]
theorem bf_many : (bf h g ps l m).lookup ("many" : Str) = some (V.int m) := by
  obtain ⟨a1, a2, a3, a4, a5, a6, a7, a8, a9, a10⟩ := bf_ne
  rw [← bf_mk]
  simp only [lookup_putF, if_neg a5, if_neg a6, if_neg a7, if_true]
theorem bf_gates : (bf h g ps l m).lookup ("gates" : Str) = some (V.ref g) := by
  obtain ⟨a1, a2, a3, a4, a5, a6, a7, a8, a9, a10⟩ := bf_ne
  rw [← bf_mk]
  simp only [lookup_putF, if_neg a8, if_neg a9, if_true]
theorem bf_past : (bf h g ps l m).lookup ("past" : Str) = some (V.ref ps) := by
  obtain ⟨a1, a2, a3, a4, a5, a6, a7, a8, a9, a10⟩ := bf_ne
  rw [← bf_mk]
  simp only [lookup_putF, if_neg a10, if_true]
theorem bf_last : (bf h g ps l m).lookup ("last" : Str) = some (V.ref l) := by
  rw [← bf_mk]
  simp only [lookup_putF, if_true]
theorem bf_no {f : Str} (a1 : ¬ f = "held") (a2 : ¬ f = "many") (a3 : ¬ f = "gates") (a4 : ¬ f = "past") (a5 : ¬ f = "last") : (bf h g ps l m).lookup f = none := by
  rw [← bf_mk]
  simp only [lookup_putF, if_neg a1, if_neg a2, if_neg a3, if_neg a4, if_neg a5]
  rfl
theorem bf_put_held : putF "held" (.ref h2) (bf h g ps l m) = bf h2 g ps l m := by
  simp only [putF, bf, if_true]
theorem bf_put_gates : putF "gates" (.ref g2) (bf h g ps l m) = bf h g2 ps l m := by
  obtain ⟨a1, a2, a3, a4, a5, a6, a7, a8, a9, a10⟩ := bf_ne
  simp only [putF, bf, if_neg a2, if_neg a5, if_true]
theorem bf_put_last : putF "last" (.ref l2) (bf h g ps l m) = bf h g ps l2 m := by
  obtain ⟨a1, a2, a3, a4, a5, a6, a7, a8, a9, a10⟩ := bf_ne
  simp only [putF, bf, if_neg a4, if_neg a7, if_neg a9, if_neg a10, if_true]
end
/-- a new board at x, behind the heap H0 -/
def BoardNew (K : PySem.W.Frag) (C : Addr) (H0 : Hp) (x : Addr) (H' : Hp) (p : Plan) (vals : List Bool) : Prop := ∃ dx h g ps l ws, H' x = some (.ins C dx (bf h g ps l p.many)) ∧ H' h = some (.lst (vals.map V.bl)) ∧ H' g = some (.lst ws) ∧ Rows (GateAt K H0) ws p.gates ∧ H' ps = some (.lst []) ∧ H' l = some (.lst []) ∧
  H0 h = none ∧ H0 g = none ∧ H0 ps = none ∧ H0 l = none ∧ ps ≠ h ∧ ps ≠ g ∧ ps ≠ l

/-! ### whether a plan has a ring, the laws' way -/
def ringedB (p : Plan) : Bool := decide ((goneM p).1.length < p.gates.length)
theorem order_ringed {p : Plan} (v : Valid p) : orderM p = if ringedB p = true then .error .ringed else .ok (goneM p).1 := by
  unfold orderM ringedB
  rw [valid_iff.mpr v]
  simp only [decide_eq_true_eq]
theorem order_of_free {p : Plan} (v : Valid p) (h : ringedB p = false) : orderM p = .ok (goneM p).1 := by
  rw [order_ringed v, h]; rfl
theorem order_of_ring {p : Plan} (v : Valid p) (h : ringedB p = true) : orderM p = .error .ringed := by
  rw [order_ringed v, h]; rfl
theorem free_ringed {p : Plan} (v : Valid p) (h : Free p) : ringedB p = false := by
  unfold ringedB
  rw [decide_eq_false_iff_not, gone_full v h]
  omega
/-- all that is found and done at the end stays so -/
theorem gone_src {p : Plan} (v : Valid p) {d : List Bool} (hs : ∀ l : Int, 0 ≤ l → l < p.lines → d.getD l.toNat false = true → l < p.many ∨ l ∈ (goneM p).1) {k : Int} (k0 : p.many ≤ k) (k1 : k < p.lines) (h : okSrcs d (gateN p k).srcs = true) : k ∈ (goneM p).1 := by
  obtain ⟨gi, hn⟩ := gone_inv v.m0
  have m0 := v.m0
  obtain ⟨hg, hgm⟩ := gateN_get k0 k1
  obtain ⟨_, hsr, _⟩ := gate_ok (v.gate _ hgm)
  refine (gi.fnd k).mpr ⟨k0, k1, ?_⟩
  have e : p.many + (((k - p.many).toNat : Nat) : Int) = k := by omega
  have := ready_none hn _ _ hg
  rw [e] at this
  rcases this with q | q
  · exact q
  · exfalso
    rw [okSrcs_iff.mpr fun s hs2 => ?_] at q
    · cases q
    · obtain ⟨s0, s1⟩ := hsr s hs2
      rcases hs s s0 s1 (okSrcs_iff.mp h s hs2) with c | c
      · exact gi.inp s.toNat (by omega)
      · exact ((gi.fnd s).mp c).2.2
/-- the sources of the one that is found at i -/
theorem gone_srcs {p : Plan} (v : Valid p) {i : Nat} {l : Int} (hl : (goneM p).1[i]? = some l) : ∀ s ∈ (gateN p l).srcs, 0 ≤ s ∧ s < p.lines ∧ (s < p.many ∨ s ∈ (goneM p).1.take i) := by
  obtain ⟨gi, _⟩ := gone_inv v.m0
  obtain ⟨j, g, hg, e, _, hs⟩ := ready_some (gone_steps p i l hl)
  intro s hss
  have eg : gateN p l = g := by
    unfold gateN
    rw [List.getD_eq_getElem?_getD, show (l - p.many).toNat = j by omega, hg]; rfl
  rw [eg] at hss
  obtain ⟨_, hsr, _⟩ := gate_ok (v.gate g (List.mem_of_getElem? hg))
  obtain ⟨s0, s1⟩ := hsr s hss
  refine ⟨s0, s1, ?_⟩
  rcases doneBy_get (p := p) s0 _ _ (fun x hx => by have := ((gi.fnd x).mp (List.mem_of_mem_take hx)).1; have := v.m0; omega) (okSrcs_iff.mp hs s hss) with q | q
  · rw [done0_get (by omega)] at q
    have := of_decide_eq_true q
    left; omega
  · exact .inr q
/-- behind t turns, and at the line k of the next -/
structure RingInv (p : Plan) (t : Nat) (k : Int) (d : List Bool) : Prop where
  len : (d.length : Int) = p.lines
  inp : ∀ l : Int, 0 ≤ l → l < p.many → d.getD l.toNat false = true
  snd : ∀ l : Int, 0 ≤ l → l < p.lines → d.getD l.toNat false = true → l < p.many ∨ l ∈ (goneM p).1
  old : ∀ (i : Nat) l, i < t → (goneM p).1[i]? = some l → d.getD l.toNat false = true
  now : ∀ l, l < k → (goneM p).1[t]? = some l → d.getD l.toNat false = true
theorem ringInv0 {p : Plan} (v : Valid p) : RingInv p 0 p.many (done0 p) := by
  have m0 := v.m0
  obtain ⟨gi, _⟩ := gone_inv m0
  have hl : 0 ≤ p.lines := by unfold Plan.lines; omega
  refine ⟨by rw [done0_len]; omega, fun l l0 l1 => ?_, fun l l0 l1 h => ?_, fun i l hi => by omega, fun l hl h => ?_⟩
  · rw [done0_get (by unfold Plan.lines at *; omega)]; exact decide_eq_true (by omega)
  · rw [done0_get (by omega)] at h
    have := of_decide_eq_true h
    left; omega
  · have := ((gi.fnd l).mp (List.mem_of_getElem? h)).1
    omega
theorem RingInv.turn {p : Plan} {t : Nat} {d : List Bool} (v : Valid p) (h : RingInv p t p.lines d) : RingInv p (t + 1) p.many d := by
  obtain ⟨gi, _⟩ := gone_inv v.m0
  refine ⟨h.len, h.inp, h.snd, fun i l hi hl => ?_, fun l hl h2 => ?_⟩
  · by_cases c : i < t
    · exact h.old i l c hl
    · rw [show i = t by omega] at hl
      exact h.now l ((gi.fnd l).mp (List.mem_of_getElem? hl)).2.1 hl
  · have := ((gi.fnd l).mp (List.mem_of_getElem? h2)).1
    omega
theorem RingInv.step {p : Plan} {t : Nat} {k : Int} {d : List Bool} (v : Valid p) (h : RingInv p t k d) (k0 : p.many ≤ k) (k1 : k < p.lines) :
    RingInv p t (k + 1) (if !(d.getD k.toNat false) && okSrcs d (gateN p k).srcs then d.set k.toNat true else d) := by
  have m0 := v.m0
  have hlen := h.len
  obtain ⟨gi, _⟩ := gone_inv m0
  have hkl : k.toNat < d.length := by omega
  -- the one that is found at t
  have hnow : (goneM p).1[t]? = some k → okSrcs d (gateN p k).srcs = true := fun hk => okSrcs_iff.mpr fun s hs => by
    obtain ⟨s0, s1, c⟩ := gone_srcs v hk s hs
    rcases c with c | c
    · exact h.inp s s0 c
    · obtain ⟨i, hi, hie⟩ := List.getElem_of_mem c
      rw [List.length_take] at hi
      rw [List.getElem_take] at hie
      exact h.old i s (by omega) (by rw [List.getElem?_eq_getElem (by omega), hie])
  have up : ∀ j : Nat, d.getD j false = true → (d.set k.toNat true).getD j false = true := fun j hj => by
    rw [getD_set hkl]
    split
    · rfl
    · exact hj
  by_cases c : (!(d.getD k.toNat false) && okSrcs d (gateN p k).srcs) = true
  · rw [if_pos c]
    rw [Bool.and_eq_true] at c
    refine ⟨by rw [List.length_set]; exact hlen, fun l l0 l1 => up _ (h.inp l l0 l1), fun l l0 l1 hl => ?_, fun i l hi hl => up _ (h.old i l hi hl), fun l hl h2 => ?_⟩
    · rw [getD_set hkl] at hl
      by_cases e : k.toNat = l.toNat
      · right
        rw [show l = k by omega]
        exact gone_src v h.snd k0 k1 c.2
      · rw [if_neg e] at hl
        exact h.snd l l0 l1 hl
    · by_cases e : l = k
      · subst e; rw [getD_set hkl, if_pos rfl]
      · exact up _ (h.now l (by omega) h2)
  · rw [if_neg c]
    refine ⟨hlen, h.inp, h.snd, h.old, fun l hl h2 => ?_⟩
    by_cases e : l = k
    · subst e
      rw [hnow h2] at c
      cases e2 : d.getD l.toNat false with
      | true => rfl
      | false => rw [e2] at c; exact absurd rfl c
    · exact h.now l (by omega) h2
theorem ringInv_end {p : Plan} {t : Nat} {d : List Bool} (v : Valid p) (h : RingInv p t p.many d) (ht : p.gates.length ≤ t) : (!d.all id) = ringedB p := by
  have m0 := v.m0
  have hlen := h.len
  obtain ⟨gi, _⟩ := gone_inv m0
  have hcnt := gi.cnt
  unfold ringedB
  have hall : d.all id = true ↔ ∀ l : Int, 0 ≤ l → l < p.lines → d.getD l.toNat false = true := by
    rw [List.all_eq_true]
    constructor
    · intro q l l0 l1
      have hl : l.toNat < d.length := by omega
      rw [List.getD_eq_getElem?_getD, List.getElem?_eq_getElem hl]
      exact q _ (List.getElem_mem hl)
    · intro q b hb
      obtain ⟨i, hi, rfl⟩ := List.getElem_of_mem hb
      have := q (i : Int) (by omega) (by omega)
      rw [Int.toNat_natCast, List.getD_eq_getElem?_getD, List.getElem?_eq_getElem hi] at this
      exact this
  by_cases c : (goneM p).1.length < p.gates.length
  · rw [decide_eq_true c]
    cases e : d.all id with
    | false => rfl
    | true =>
      exfalso
      have hd := hall.mp e
      have z : cntF (goneM p).2 = 0 := cntF_zero fun i hi => by
        have hgl := gi.len
        by_cases c2 : (i : Int) < p.many
        · exact gi.inp i c2
        · rcases h.snd (i : Int) (by omega) (by omega) (hd (i : Int) (by omega) (by omega)) with q | q
          · omega
          · have := ((gi.fnd _).mp q).2.2
            rw [Int.toNat_natCast] at this
            exact this
      omega
  · rw [decide_eq_false c]
    have ho : orderM p = .ok (goneM p).1 := order_of_free v (by unfold ringedB; exact decide_eq_false c)
    obtain ⟨_, hm⟩ := order_mem ho
    have : d.all id = true := hall.mpr fun l l0 l1 => by
      by_cases c2 : l < p.many
      · exact h.inp l l0 c2
      · obtain ⟨i, hi, hie⟩ := List.getElem_of_mem ((hm l).mpr ⟨by omega, l1⟩)
        exact h.old i l (by omega) (by rw [List.getElem?_eq_getElem hi, hie])
    rw [this]; rfl

section
open PySem.Spec PyProof.Rows
/-! ### list(reversed(xs)) -/
variable {prog : Program} {w : World} {A : Around} {E : Value → Shared → Prop} {s : Shared}
theorem wp_ext_rev {R : Result → Shared → Prop} {it l S : Addr} {items : Array Value} {res : Value} {c0 : Nat} (hh : A.handled = none) (hit : s.heap.IsRevIter it l ((items.size : Int) - 1)) (hl : s.heap.IsList l items) (hne : l ≠ it) (nSi : S ≠ it) (nSl : S ≠ l) (hn : items.size ≤ sizeLine)
    (hS : s.heap.get? S = some { cls := .type "list", data := .seq #[] c0 })
    (hR : ∀ (h2 : Heap) (tk : Nat) (acc : Array Value) (c2 : Nat), (∀ b o, b ≠ S → b ≠ it → s.heap.get? b = some o → h2.get? b = some o) → h2.get? S = some { cls := .type "list", dict := none, data := .seq acc c2, slots := #[] } →
      ItemsOf (fun i v => items[items.size - 1 - i]? = some v) acc items.size → R (.ok (.ret res)) { s with heap := h2, toks := tk }) :
    wpAny (model prog w) A.in1 (Builtin.List.listExtendWith (.ref S) (.ref it) res) (fun fin s2 => match fin with | .done f => R (.ok f) s2 | .again c2 => c2.quiet = true ∧ codeAny (model prog w) A c2 R s2) (fun e s2 => R (.error e) s2) s := by
  have Wk := (Walks.listRev (prog := prog) (w := w) (A := A.in1) hh it l hne items).toS
  have nS : S ∉ [it, l] := by simp only [List.mem_cons, List.not_mem_nil, or_false, not_or]; exact ⟨nSi, nSl⟩
  have hTy := Heap.IsRevIter.typeIs (s := s) hit
  have n1 : Builtin.List.listSameRef (.ref S) (.ref it) = false := by simp [Builtin.List.listSameRef, nSi]
  unfold Builtin.List.listExtendWith
  refine wpAny_bind (wpAny_typeOf hTy ?_)
  rw [if_neg (by rw [n1]; decide)]
  refine wpAny_bind (wpAny_pyIter_revIter hit (wpAny_bind (wpAny_holding ?_)))
  unfold Builtin.List.listLengthHint
  refine wpAny_bind (wpAny_specialOf hTy RT.nolen_lri ?_)
  show wpAny _ A.in1 (specialOf (Value.ref it) (Str.ofString "__length_hint__") >>= _) _ _ s
  refine wpAny_bind (wpAny_specialOf hTy RT.hint_lri ?_)
  generalize hk : ("list_reverseiterator.__length_hint__" : String) = kid
  wp_delta
  rw [show splitId kid = some ("list_reverseiterator", "__length_hint__") from by subst hk; decide +kernel]
  subst hk
  refine wpAny_bind (wpAny_isInstance (b := true) hTy (by rw [isSubtype_type]; kernel_rfl) (wpAny_pure ?_))
  rw [if_neg (by decide)]
  have e0 : ((items.size : Nat) : Int) - 1 - ((0 : Nat) : Int) = (items.size : Int) - 1 := by omega
  refine wpAny_pure ⟨plainId_quiet F.plain_extend_loop _, codeAny_extend_loopS Wk hn _ nS _ items.size 0 _ _ _ rfl (Nat.zero_le _) ⟨Nat.zero_le _, by rw [e0]; exact hit, hl⟩ hS (ItemsOf.nil _) fun s2 acc c2 hm hS2 hacc => ?_⟩
  rw [Moved.eq_with hm]
  exact hR s2.heap s2.toks acc c2 (fun b o b1 b2 e => hm.heap b o (fun hb => by
    rcases List.mem_cons.mp hb with z | z
    · exact b1 z
    · exact b2 (List.mem_singleton.mp z)) e) hS2 hacc
theorem wp_init_rev {R : Result → Shared → Prop} {it l S : Addr} {items : Array Value} (hh : A.handled = none) (hit : s.heap.IsRevIter it l ((items.size : Int) - 1)) (hl : s.heap.IsList l items) (hne : l ≠ it) (nSi : S ≠ it) (nSl : S ≠ l) (hn : items.size ≤ sizeLine)
    (hS : s.heap.get? S = some { cls := .type "list", data := .seq #[] })
    (hR : ∀ (h2 : Heap) (tk : Nat) (acc : Array Value) (c2 : Nat), (∀ b o, b ≠ S → b ≠ it → s.heap.get? b = some o → h2.get? b = some o) → h2.get? S = some { cls := .type "list", dict := none, data := .seq acc c2, slots := #[] } →
      ItemsOf (fun i v => items[items.size - 1 - i]? = some v) acc items.size → R (.ok (.ret .none)) { s with heap := h2, toks := tk }) :
    wpAny (model prog w) A.in1 (Builtin.«list.__init__» ⟨[.ref S, .ref it], []⟩) (fun fin s2 => match fin with | .done f => R (.ok f) s2 | .again c2 => c2.quiet = true ∧ codeAny (model prog w) A c2 R s2) (fun e s2 => R (.error e) s2) s := by
  show wpAny _ A.in1 (Builtin.List.listItems (.ref S) >>= fun old => Builtin.List.listUpdate (.ref S) (fun _ => #[]) >>= fun _ => letGo old.toList.reverse >>= fun _ => Builtin.List.listExtendWith (.ref S) (.ref it) .none) _ _ s
  have oth : ∀ b o, b ≠ S → s.heap.get? b = some o → (s.heap.update S (Obj.mapSeq (fun _ => (#[] : Array Value)))).get? b = some o := fun b o hb e => (Heap.get?_update_other _ _ (Ne.symm hb)).trans e
  have hS2 := Heap.get?_update_self (Obj.mapSeq (fun _ => (#[] : Array Value))) hS rfl
  refine wpAny_bind ?_
  unfold Builtin.List.listItems
  refine wpAny_bind (wpAny_seqItems hS rfl (wpAny_pure ?_))
  show wpAny _ A.in1 (updateSeq S (fun _ => #[]) >>= fun _ => letGo (#[] : Array Value).toList.reverse >>= fun _ => Builtin.List.listExtendWith (.ref S) (.ref it) .none) _ _ s
  refine wpAny_bind (wpAny_updateSeq hS rfl (wpAny_bind (wpAny_letGo ?_)))
  obtain ⟨ol, hol, hor⟩ := hl
  exact wp_ext_rev (s := { s with heap := s.heap.update S (Obj.mapSeq (fun _ => (#[] : Array Value))) }) hh (hit.at fun o e => oth it o (Ne.symm nSi) e) ⟨ol, oth l _ (Ne.symm nSl) hol, hor⟩ hne nSi nSl hn hS2 fun h2 tk acc c2 q hq hacc => hR h2 tk acc c2 (fun b o b1 b2 e => q b o b1 b2 (oth b o b1 e)) hq hacc
theorem call_lst_rev {it l : Addr} {items : Array Value} {Q : Value → Shared → Prop} (hh : A.handled = none) (hit : s.heap.IsRevIter it l ((items.size : Int) - 1)) (hl : s.heap.IsList l items) (hne : l ≠ it) (hn : items.size ≤ sizeLine)
    (hQ : ∀ (h2 : Heap) (tk : Nat) (acc : Array Value) (c2 : Nat), (∀ b o, b ≠ it → s.heap.get? b = some o → h2.get? b = some o) → h2.get? s.heap.objs.size = some { cls := .type "list", dict := none, data := .seq acc c2, slots := #[] } →
      ItemsOf (fun i v => items[items.size - 1 - i]? = some v) acc items.size → Q (.ref s.heap.objs.size) { s with heap := h2, toks := tk }) : wpAny (model prog w) A (call (.type "list") [.ref it]) Q E s := by
  refine callType_codes (Q₁ := fun o s1 => o = .ref s.heap.objs.size ∧ s1 = { s with heap := s.heap.push { cls := .type "list", data := .seq #[] } }) F.called_list (F.typeCall_list_1 _) F.entry_list_init (code_list_new _ ⟨rfl, rfl⟩) fun o s1 h1 => ?_
  obtain ⟨rfl, rfl⟩ := h1
  have hS : (s.heap.push { cls := .type "list", data := .seq #[] }).get? s.heap.objs.size = some { cls := .type "list", data := .seq #[] } := Heap.get?_push_size _ rfl
  obtain ⟨oi, hoi, _⟩ := id hit
  obtain ⟨ol, hol, _⟩ := id hl
  refine ⟨⟨_, hS, rfl⟩, F.args_list_init_2 _ _, wp_init_rev (s := { s with heap := s.heap.push { cls := .type "list", data := .seq #[] } }) (A := A.in1) hh (hit.at fun o e => Heap.get?_push_of_some _ e) (hl.push _) hne (Nat.ne_of_gt (Heap.lt_size hoi)) (Nat.ne_of_gt (Heap.lt_size hol)) hn hS fun h2 tk acc c2 q hq hacc => ⟨rfl, ?_⟩⟩
  exact hQ h2 tk acc c2 (fun b o b2 e => q b o (Nat.ne_of_lt (Heap.lt_size e)) b2 (Heap.get?_push_of_some _ e)) hq hacc
end
section
open PySem.Spec PyProof.Rows
def tLstRev (K : PySem.W.Frag) (te : TE) : TE := fun σ H Q => te σ H fun v G => ∃ (a : Addr) (xs : List V), v = .ref a ∧ SqL K G a xs ∧ ∀ q, G q = none → Q (.ref q) (upd G q (.lst xs.reverse))
theorem pe_lstRev {X : Cx} {e : Expr} {te : TE} {p p2 pos pos2 : Pos} (hc : X.calm = true) (hg : Gl X "list") (hm : X.mg "list" = none) (hg2 : Gl X "reversed") (hm2 : X.mg "reversed" = none) (he : PE X e te)
    (hs : starEach [e] X.env = (false, eval e X.env) :: starEach [] X.env := by rfl)
    (hs2 : starEach [.Call (.Name "reversed" p2) [e] [] pos2] X.env = (false, eval (.Call (.Name "reversed" p2) [e] [] pos2) X.env) :: starEach [] X.env := by rfl) :
    PE X (.Call (.Name "list" p) [.Call (.Name "reversed" p2) [e] [] pos2] [] pos) (tLstRev X.K te) := by
  refine ⟨fun pins s σ G Q I h => Call_ (ld_blt I hg hm boot_list (PyProof.Rows.callWith_type1 (args_cons (Call_ (ld_blt I hg2 hm2 PyProof.Rows.boot_reversed (PyProof.Rows.callWith_type1 (args_cons (thn (he.run pins s σ G _ I h) fun u s1 hh => args_nil ?_) hs) hs rfl))) hs2) hs2 rfl))⟩
  obtain ⟨v, G1, I1, r1, a, xs, ev, hq, q⟩ := hh
  subst ev
  obtain rfl : u = Value.ref a := r1
  obtain ⟨its, rv, p', hz⟩ := I1.list hq
  refine call_reversed_list p'.isList (args_nil ?_)
  have k0 : ∀ b o, s1.heap.get? b = some o → (s1.heap.push (revObj a ((its.toArray.size : Int) - 1))).get? b = some o := fun b o z => Heap.get?_push_of_some _ z
  have I2 : Inv X pins σ G1 { s1 with heap := s1.heap.push (revObj a ((its.toArray.size : Int) - 1)) } := I1.kept (t' := s1.toks) k0
  obtain ⟨f0, f1, f2, f3, f4, f5⟩ := I1.fpOk (H' := G1) (b := s1.heap.objs.size) (Nat.le_refl _) (I1.hok.fresh (Nat.le_refl _))
  have hli := p'.isList
  obtain ⟨ol, hol, _⟩ := id hli
  have hn : its.toArray.size ≤ sizeLine := by rw [List.size_toArray, ← rv.length]; exact hz
  refine call_lst_rev (s := { s1 with heap := s1.heap.push (revObj a ((its.toArray.size : Int) - 1)) }) (I1.ok.hd hc) ⟨_, Heap.get?_push_size _ rfl, rfl, rfl⟩ (hli.push _) (Nat.ne_of_lt (Heap.lt_size hol)) hn fun h2 tk acc c2 hk hS hi => ?_
  have k1 : ∀ b o, s1.heap.get? b = some o → h2.get? b = some o := fun b o z => hk b o (Nat.ne_of_lt (Heap.lt_size z)) (k0 b o z)
  have hp : s1.heap.objs.size ≤ (s1.heap.push (revObj a ((its.toArray.size : Int) - 1))).objs.size := by rw [Heap.size_push]; exact Nat.le_succ _
  refine ⟨.ref _, upd G1 _ (.lst xs.reverse), I1.laid (t' := tk) k1 hp (show ObjOk X.prog X.w _ _ _ (.lst xs.reverse) from ⟨by rw [List.length_reverse]; exact hz, acc.toList, c2, RT.vals_rev rv hi, by rw [Array.toArray_toList]; exact hS⟩), rfl, q _ (I1.hok.fresh hp)⟩
end

/-! ### a ring, told -/
theorem gone_all_ringed {p : Plan} (v : Valid p) : (goneM p).2.all id = !ringedB p := by
  have m0 := v.m0
  obtain ⟨gi, _⟩ := gone_inv m0
  have hcnt := gi.cnt
  unfold ringedB
  by_cases c : (goneM p).1.length < p.gates.length
  · rw [decide_eq_true c]
    cases e : (goneM p).2.all id with
    | false => rfl
    | true =>
      exfalso
      have z : cntF (goneM p).2 = 0 := by
        unfold cntF
        rw [List.length_eq_zero_iff, List.filter_eq_nil_iff]
        intro b hb
        have := List.all_eq_true.mp e b hb
        simp only [id] at this
        rw [this]; decide
      omega
  · rw [decide_eq_false c]
    rw [Bool.not_false, List.all_eq_true]
    intro b hb
    obtain ⟨i, hi, rfl⟩ := List.getElem_of_mem hb
    have := cntF_zero' (d := (goneM p).2) (by omega) i hi
    rw [List.getD_eq_getElem?_getD, List.getElem?_eq_getElem hi] at this
    exact this
/-- a gate's line that is never done -/
def Stuck (p : Plan) (l : Int) : Prop := p.many ≤ l ∧ l < p.lines ∧ (goneM p).2.getD l.toNat false = false
theorem first_false : ∀ {d : List Bool}, d.all id = false → ∃ j : Nat, d[j]? = some false ∧ ∀ (m : Nat) (b : Bool), m < j → d[m]? = some b → b = true
  | [], h => by cases h
  | false :: r, _ => ⟨0, rfl, fun m b hm => by omega⟩
  | true :: r, h => by
    obtain ⟨j, h1, h2⟩ := first_false (d := r) (by simpa using h)
    refine ⟨j + 1, by simpa using h1, fun m b hm hb => ?_⟩
    cases m with
    | zero => simpa using hb.symm
    | succ m => exact h2 m b (by omega) (by simpa using hb)
theorem stuck_first {p : Plan} (v : Valid p) {j : Nat} (h : (goneM p).2[j]? = some false) : Stuck p (j : Int) := by
  obtain ⟨gi, _⟩ := gone_inv v.m0
  have hl := gi.len
  have hj := (List.getElem?_eq_some_iff.mp h).1
  have hd : (goneM p).2.getD ((j : Int)).toNat false = false := by rw [Int.toNat_natCast, List.getD_eq_getElem?_getD, h]; rfl
  refine ⟨?_, by omega, hd⟩
  by_cases c : (j : Int) < p.many
  · have := gi.inp j c
    rw [Int.toNat_natCast] at hd
    rw [hd] at this; cases this
  · omega
/-- it has a source that is never done either -/
theorem stuck_next {p : Plan} (v : Valid p) {l : Int} (h : Stuck p l) : ∃ s r, (gateN p l).srcs.filter (fun s => !((goneM p).2.getD s.toNat false)) = s :: r ∧ s ∈ (gateN p l).srcs ∧ Stuck p s := by
  obtain ⟨h0, h1, h2⟩ := h
  obtain ⟨gi, hn⟩ := gone_inv v.m0
  obtain ⟨hg, hgm⟩ := gateN_get h0 h1
  obtain ⟨_, hsr, _⟩ := gate_ok (v.gate _ hgm)
  have e : p.many + (((l - p.many).toNat : Nat) : Int) = l := by omega
  have q := ready_none hn _ _ hg
  rw [e, h2] at q
  have hf : okSrcs (goneM p).2 (gateN p l).srcs = false := q.elim (fun z => by cases z) id
  have hne : (gateN p l).srcs.filter (fun s => !((goneM p).2.getD s.toNat false)) ≠ [] := fun hnil => by
    rw [List.filter_eq_nil_iff] at hnil
    have : okSrcs (goneM p).2 (gateN p l).srcs = true := okSrcs_iff.mpr fun s hs => by
      have := hnil s hs
      simpa using this
    rw [this] at hf; cases hf
  obtain ⟨s, r, hsr2⟩ := List.exists_cons_of_ne_nil hne
  have hm : s ∈ (gateN p l).srcs.filter (fun s => !((goneM p).2.getD s.toNat false)) := by rw [hsr2]; exact List.mem_cons_self
  obtain ⟨m1, m2⟩ := List.mem_filter.mp hm
  obtain ⟨s0, s1⟩ := hsr s m1
  have m3 : (goneM p).2.getD s.toNat false = false := by simpa using m2
  refine ⟨s, r, hsr2, m1, ?_, s1, m3⟩
  by_cases c : s < p.many
  · have := gi.inp s.toNat (by omega)
    rw [m3] at this; cases this
  · omega
structure RingWay (p : Plan) (wl : List Int) (line : Int) : Prop where
  nd : wl.Nodup
  rng : ∀ l ∈ wl, Stuck p l
  cur : Stuck p line
  chain : ∀ (i : Nat) a b, wl[i]? = some a → wl[i + 1]? = some b → b ∈ (gateN p a).srcs
  last : ∀ a, wl.getLast? = some a → line ∈ (gateN p a).srcs
theorem RingWay.len {p : Plan} {wl : List Int} {line : Int} (v : Valid p) (h : RingWay p wl line) : wl.length ≤ cntF (goneM p).2 := by
  obtain ⟨gi, _⟩ := gone_inv v.m0
  have hl := gi.len
  have := cntF_doneBy wl (goneM p).2 (fun x hx => by
    obtain ⟨h0, h1, h2⟩ := h.rng x hx
    have := v.m0
    exact ⟨by omega, by omega, h2⟩) h.nd
  omega
theorem ringWay0 {p : Plan} {line : Int} (h : Stuck p line) : RingWay p [] line :=
  ⟨List.nodup_nil, fun l hl => (by cases hl), h, fun i a b h => by simp at h, fun a h => by simp at h⟩
theorem RingWay.step {p : Plan} {wl : List Int} {line s : Int} (h : RingWay p wl line) (hn : line ∉ wl) (hs : s ∈ (gateN p line).srcs) (hst : Stuck p s) : RingWay p (wl ++ [line]) s := by
  refine ⟨?_, fun l hl => ?_, hst, fun i a b ha hb => ?_, fun a ha => ?_⟩
  · exact List.nodup_append.mpr ⟨h.nd, by simp, fun x hx y hy => by rw [List.mem_singleton.mp hy]; intro e; exact hn (e ▸ hx)⟩
  · rcases List.mem_append.mp hl with hl | hl
    · exact h.rng l hl
    · rw [List.mem_singleton.mp hl]; exact h.cur
  · have hi : i + 1 < (wl ++ [line]).length := (List.getElem?_eq_some_iff.mp hb).1
    rw [List.length_append] at hi
    simp only [List.length_cons, List.length_nil] at hi
    rw [List.getElem?_append_left (by omega)] at ha
    by_cases c : i + 1 < wl.length
    · rw [List.getElem?_append_left c] at hb
      exact h.chain i a b ha hb
    · rw [List.getElem?_append_right (by omega), show i + 1 - wl.length = 0 by omega] at hb
      have hb : line = b := by simpa using hb
      subst hb
      refine h.last a ?_
      rw [List.getLast?_eq_getElem?, show wl.length - 1 = i by omega]
      exact ha
  · rw [List.getLast?_append] at ha
    have ha : line = a := by simpa using ha
    subst ha
    exact hs
/-- a ring: lines of gates, each a source of the next one, the last of the first -/
structure GoesRound (p : Plan) (ls : List Int) : Prop where
  ne : ls ≠ []
  nd : ls.Nodup
  rng : ∀ l ∈ ls, p.many ≤ l ∧ l < p.lines
  chain : ∀ (i : Nat) a b, ls[i]? = some a → ls[i + 1]? = some b → a ∈ (gateN p b).srcs
  last : ∀ a b, ls.getLast? = some a → ls[0]? = some b → a ∈ (gateN p b).srcs
theorem ringWay_round {p : Plan} {wl : List Int} {line : Int} {j : Nat} (h : RingWay p wl line) (hj : wl[j]? = some line) : GoesRound p (wl.drop j).reverse := by
  have hjl := (List.getElem?_eq_some_iff.mp hj).1
  have hlen : (wl.drop j).length = wl.length - j := List.length_drop
  have get : ∀ i, i < wl.length - j → (wl.drop j).reverse[i]? = wl[wl.length - 1 - i]? := fun i hi => by
    rw [List.getElem?_reverse (by omega), List.getElem?_drop, hlen]
    congr 1
    omega
  refine ⟨fun e => ?_, List.pairwise_reverse.mpr ((h.nd.sublist (List.drop_sublist _ _)).imp Ne.symm), fun l hl => ?_, fun i a b ha hb => ?_, fun a b ha hb => ?_⟩
  · have := congrArg List.length e
    rw [List.length_reverse, hlen] at this
    simp at this; omega
  · obtain ⟨h0, h1, _⟩ := h.rng l (List.mem_of_mem_drop (List.mem_reverse.mp hl))
    exact ⟨h0, h1⟩
  · have hi := (List.getElem?_eq_some_iff.mp hb).1
    rw [List.length_reverse, hlen] at hi
    rw [get i (by omega)] at ha
    rw [get (i + 1) hi] at hb
    refine h.chain (wl.length - 1 - (i + 1)) b a hb ?_
    rw [show wl.length - 1 - (i + 1) + 1 = wl.length - 1 - i by omega]
    exact ha
  · rw [get 0 (by omega), Nat.sub_zero, ← List.getLast?_eq_getElem?] at hb
    rw [List.getLast?_reverse, List.head?_drop, hj] at ha
    cases ha
    exact h.last b hb
/-! evaluation -/
section
variable {K : PySem.W.Frag} {σ : L2.St} {G : Hp} {ta tb te : TE} {x y z : V} {xs : List V} {p : Addr} {j : Nat}
theorem ev_index (ha : Ev ta σ G (.ref p)) (h : SqL K G p xs) (hb : Ev tb σ G y) (fy : flatV y = true) (fx : xs.all flatV = true) (hz : xs[j]? = some z) (he : eqV z y = true) (hno : ∀ (m : Nat) (z' : V), m < j → xs[m]? = some z' → eqV z' y = false) :
    Ev (tBM K "list" (rIndex K) ta (tCons tb tNil)) σ G (.int (j : Nat)) := fun H e Q q => ha H e _ fun H1 e1 => ⟨Or.inl ⟨rfl, xs, ex_l (e.trans e1) h⟩, hb H1 (e.trans e1) _ fun H2 e2 => ⟨p, xs, y, j, z, rfl, rfl, ex_l ((e.trans e1).trans e2) h, fy, fx, hz, he, hno, q H2 (e1.trans e2)⟩⟩
theorem el_lstRev (h : EvL te σ G xs) : EvL (tLstRev K te) σ G xs.reverse := fun H e Q q => h H e _ fun p H1 hp e1 h1 => ⟨p, xs, rfl, sq_of h1, fun l hl => q l _ (e1.none hl) (e1.trans (Ex.new hl)) upd_same⟩
theorem ev_lenSet {ns : List Int} (ha : Ev ta σ G (.ref p)) (h : SqL K G p (ns.map V.int)) (nd : ns.Nodup) (hn : ns.length ≤ 4000) : Ev (RZ.tLenSetI K ta) σ G (.int ns.length) := fun H e Q q => ha H e _ fun H1 e1 => ⟨p, ns, rfl, ex_l (e.trans e1) h, nd, hn, q H1 e1⟩
end
theorem flat_bools (bs : List Bool) : (bs.map V.bl).all flatV = true := by
  rw [List.all_eq_true]
  intro v hv
  obtain ⟨i, _, rfl⟩ := List.mem_map.mp hv
  rfl
/-- the first place of it -/
theorem first_at {x : Int} : ∀ {wl : List Int}, x ∈ wl → ∃ j : Nat, wl[j]? = some x ∧ ∀ (m : Nat) (z : Int), m < j → wl[m]? = some z → z ≠ x
  | [], h => by cases h
  | y :: r, h => by
    by_cases c : y = x
    · exact ⟨0, by rw [c]; rfl, fun m z hm => by omega⟩
    · obtain ⟨j, h1, h2⟩ := first_at (wl := r) ((List.mem_cons.mp h).resolve_left fun e => c e.symm)
      refine ⟨j + 1, by simpa using h1, fun m z hm hz => ?_⟩
      cases m with
      | zero =>
        have : y = z := by simpa using hz
        rw [← this]; exact c
      | succ m => exact h2 m z (by omega) (by simpa using hz)
theorem ef_callP2 {σ : L2.St} {G : Hp} {sp : Sp} {E : L2.St → XK} {tA : TA} {A : List V → Hp → Prop} (h : EvAP tA σ G A) (hs : ∀ vs G', Ex G G' → A vs G' → ∀ H, Ex G' H → ∀ Q, sp vs H Q (E σ)) : EvF (tCallS sp E tA) σ G := fun H e Q => h H e _ fun vs G1 H1 g1 g2 _ p => hs vs G1 g1 p H1 g2 Q

/-! ### what stays when a plan is trimmed -/
inductive Kept (p : Plan) (outs : List Int) : Int → Prop
  | inp {l : Int} : 0 ≤ l → l < p.many → Kept p outs l
  | out {l : Int} : l ∈ outs → Kept p outs l
  | src {y s : Int} : Kept p outs y → p.many ≤ y → y < p.lines → s ∈ (gateN p y).srcs → Kept p outs s
theorem Kept.range {p : Plan} {outs : List Int} (v : Valid p) (ho : ∀ o ∈ outs, 0 ≤ o ∧ o < p.lines) {l : Int} (h : Kept p outs l) : 0 ≤ l ∧ l < p.lines := by
  cases h with
  | inp h0 h1 => exact ⟨h0, by unfold Plan.lines; omega⟩
  | out h => exact ho l h
  | src _ y0 y1 hs =>
    obtain ⟨_, hgm⟩ := gateN_get y0 y1
    obtain ⟨_, hsr, _⟩ := gate_ok (v.gate _ hgm)
    exact hsr l hs
open Classical in
noncomputable def keptL (p : Plan) (outs : List Int) : List Int := ((List.range p.lines.toNat).filter fun i : Nat => decide (Kept p outs (i : Int))).map fun i : Nat => (i : Int)
open Classical in
theorem mem_keptL {p : Plan} {outs : List Int} (v : Valid p) (ho : ∀ o ∈ outs, 0 ≤ o ∧ o < p.lines) {l : Int} : l ∈ keptL p outs ↔ Kept p outs l := by
  unfold keptL
  rw [List.mem_map]
  constructor
  · rintro ⟨i, hi, rfl⟩
    exact of_decide_eq_true (List.mem_filter.mp hi).2
  · intro h
    obtain ⟨h0, h1⟩ := h.range v ho
    exact ⟨l.toNat, List.mem_filter.mpr ⟨List.mem_range.mpr (by omega), by rw [show ((l.toNat : Nat) : Int) = l by omega]; exact decide_eq_true h⟩, by omega⟩
open Classical in
theorem keptL_nodup (p : Plan) (outs : List Int) : (keptL p outs).Nodup := by
  unfold keptL
  have h : ((List.range p.lines.toNat).filter fun i : Nat => decide (Kept p outs (i : Int))).Nodup := List.Nodup.sublist List.filter_sublist List.nodup_range
  exact h.map (fun i : Nat => (i : Int)) fun a b hne he => hne (by omega)
theorem keptL_len (p : Plan) (outs : List Int) : (keptL p outs).length ≤ p.lines.toNat := by
  unfold keptL
  rw [List.length_map]
  have := List.length_filter_le (fun i : Nat => @decide (Kept p outs (i : Int)) (Classical.propDecidable _)) (List.range p.lines.toNat)
  rw [List.length_range] at this
  exact this
open Classical in
/-- a list of marks that tells it -/
theorem keptL_marks {p : Plan} {outs : List Int} {k : List Bool} (h : ∀ l : Int, 0 ≤ l → l < p.lines → (k.getD l.toNat false = true ↔ Kept p outs l)) : (((List.range p.lines.toNat).filter fun i : Nat => k.getD i false).map fun i : Nat => (i : Int)) = keptL p outs := by
  unfold keptL
  congr 1
  refine List.filter_congr fun i hi => ?_
  have := List.mem_range.mp hi
  have q := h (i : Int) (by omega) (by omega)
  rw [Int.toNat_natCast] at q
  by_cases c : Kept p outs (i : Int)
  · rw [q.mpr c, decide_eq_true c]
  · rw [decide_eq_false c]
    cases e : k.getD i false
    · rfl
    · exact absurd (q.mp e) c
/-! the program's way -/
structure KeptInv (p : Plan) (outs : List Int) (k : List Bool) (w : List Int) : Prop where
  len : (k.length : Int) = p.lines
  inp : ∀ l : Int, 0 ≤ l → l < p.many → k.getD l.toNat false = true
  snd : ∀ l : Int, 0 ≤ l → l < p.lines → k.getD l.toNat false = true → Kept p outs l
  wt : ∀ l ∈ w, Kept p outs l
  out : ∀ o ∈ outs, k.getD o.toNat false = true ∨ o ∈ w
  cl : ∀ y : Int, p.many ≤ y → y < p.lines → k.getD y.toNat false = true → ∀ s ∈ (gateN p y).srcs, k.getD s.toNat false = true ∨ s ∈ w
theorem keptInv0 {p : Plan} {outs : List Int} (v : Valid p) : KeptInv p outs (done0 p) outs := by
  have m0 := v.m0
  have hl : 0 ≤ p.lines := by unfold Plan.lines; omega
  refine ⟨by rw [done0_len]; omega, fun l l0 l1 => ?_, fun l l0 l1 h => ?_, fun l h => .out h, fun o h => .inr h, fun y y0 y1 h => ?_⟩
  · rw [done0_get (by unfold Plan.lines at *; omega)]; exact decide_eq_true (by omega)
  · rw [done0_get (by omega)] at h
    have := of_decide_eq_true h
    exact .inp l0 (by omega)
  · rw [done0_get (by omega)] at h
    have := of_decide_eq_true h
    omega
theorem KeptInv.skip {p : Plan} {outs : List Int} {k : List Bool} {w : List Int} {l : Int} (h : KeptInv p outs k (w ++ [l])) (hk : k.getD l.toNat false = true) : KeptInv p outs k w := by
  have red : ∀ s, k.getD s.toNat false = true ∨ s ∈ w ++ [l] → k.getD s.toNat false = true ∨ s ∈ w := fun s hs => by
    rcases hs with hs | hs
    · exact .inl hs
    · rcases List.mem_append.mp hs with hs | hs
      · exact .inr hs
      · rw [List.mem_singleton.mp hs]; exact .inl hk
  exact ⟨h.len, h.inp, h.snd, fun x hx => h.wt x (List.mem_append_left _ hx), fun o ho => red o (h.out o ho), fun y y0 y1 hy s hs => red s (h.cl y y0 y1 hy s hs)⟩
theorem KeptInv.mark {p : Plan} {outs : List Int} {k : List Bool} {w : List Int} {l : Int} (v : Valid p) (ho : ∀ o ∈ outs, 0 ≤ o ∧ o < p.lines) (h : KeptInv p outs k (w ++ [l])) (hk : k.getD l.toNat false = false) :
    p.many ≤ l ∧ l < p.lines ∧ KeptInv p outs (k.set l.toNat true) (w ++ (gateN p l).srcs) ∧ cntF (k.set l.toNat true) + 1 = cntF k := by
  have hK : Kept p outs l := h.wt l (List.mem_append_right _ (List.mem_singleton.mpr rfl))
  obtain ⟨l0, l1⟩ := hK.range v ho
  have m0 := v.m0
  have hlen := h.len
  have hkl : l.toNat < k.length := by omega
  have lm : p.many ≤ l := by
    by_cases c : l < p.many
    · have := h.inp l l0 c
      rw [hk] at this; cases this
    · omega
  have up : ∀ j : Nat, k.getD j false = true → (k.set l.toNat true).getD j false = true := fun j hj => by
    rw [getD_set hkl]
    split
    · rfl
    · exact hj
  have self : (k.set l.toNat true).getD l.toNat false = true := by rw [getD_set hkl, if_pos rfl]
  have red : ∀ s, k.getD s.toNat false = true ∨ s ∈ w ++ [l] → (k.set l.toNat true).getD s.toNat false = true ∨ s ∈ w ++ (gateN p l).srcs := fun s hs => by
    rcases hs with hs | hs
    · exact .inl (up _ hs)
    · rcases List.mem_append.mp hs with hs | hs
      · exact .inr (List.mem_append_left _ hs)
      · rw [List.mem_singleton.mp hs]; exact .inl self
  refine ⟨lm, l1, ⟨by rw [List.length_set]; exact hlen, fun x x0 x1 => up _ (h.inp x x0 x1), fun x x0 x1 hx => ?_, fun x hx => ?_, fun o ho => red o (h.out o ho), fun y y0 y1 hy s hs => ?_⟩, cntF_set hkl hk⟩
  · rw [getD_set hkl] at hx
    by_cases e : l.toNat = x.toNat
    · rw [show x = l by omega]; exact hK
    · rw [if_neg e] at hx; exact h.snd x x0 x1 hx
  · rcases List.mem_append.mp hx with hx | hx
    · exact h.wt x (List.mem_append_left _ hx)
    · exact .src hK lm l1 hx
  · rw [getD_set hkl] at hy
    by_cases e : l.toNat = y.toNat
    · rw [show y = l by omega] at hs
      exact .inr (List.mem_append_right _ hs)
    · rw [if_neg e] at hy
      exact red s (h.cl y y0 y1 hy s hs)
theorem kept_closed {p : Plan} {outs : List Int} {k : List Bool} (v : Valid p) (ho : ∀ o ∈ outs, 0 ≤ o ∧ o < p.lines) (hi : ∀ l : Int, 0 ≤ l → l < p.many → k.getD l.toNat false = true) (hs : ∀ l : Int, 0 ≤ l → l < p.lines → k.getD l.toNat false = true → Kept p outs l)
    (hout : ∀ o ∈ outs, k.getD o.toNat false = true) (hc : ∀ y : Int, p.many ≤ y → y < p.lines → k.getD y.toNat false = true → ∀ s ∈ (gateN p y).srcs, k.getD s.toNat false = true) : ∀ l : Int, 0 ≤ l → l < p.lines → (k.getD l.toNat false = true ↔ Kept p outs l) := by
  intro l l0 l1
  refine ⟨hs l l0 l1, fun h => ?_⟩
  clear l0 l1
  induction h with
  | inp a b => exact hi _ a b
  | out a => exact hout _ a
  | src a b c d ih => exact hc _ b c ih _ d
theorem KeptInv.done {p : Plan} {outs : List Int} {k : List Bool} (v : Valid p) (ho : ∀ o ∈ outs, 0 ≤ o ∧ o < p.lines) (h : KeptInv p outs k []) : ∀ l : Int, 0 ≤ l → l < p.lines → (k.getD l.toNat false = true ↔ Kept p outs l) :=
  kept_closed v ho h.inp h.snd (fun o ho => (h.out o ho).elim id fun z => by cases z) fun y y0 y1 hy s hs => (h.cl y y0 y1 hy s hs).elim id fun z => by cases z
/-! the laws' way: round by round -/
def markStep (r : List Bool × List Int) (s : Int) : List Bool × List Int := if r.1.getD s.toNat false = false then (r.1.set s.toNat true, r.2 ++ [s]) else r
def markAll (r : List Bool × List Int) (ss : List Int) : List Bool × List Int := ss.foldl markStep r
theorem markAll_snoc (r : List Bool × List Int) (ss : List Int) (s : Int) : markAll r (ss ++ [s]) = markStep (markAll r ss) s := by unfold markAll; rw [List.foldl_append]; rfl
theorem markAll_app (r : List Bool × List Int) (ss ts : List Int) : markAll r (ss ++ ts) = markAll (markAll r ss) ts := by unfold markAll; rw [List.foldl_append]
structure MarkOut (r : List Bool × List Int) (ss : List Int) (r2 : List Bool × List Int) : Prop where
  len : r2.1.length = r.1.length
  cnt : r2.2.length + cntF r2.1 = r.2.length + cntF r.1
  up : ∀ j : Nat, r.1.getD j false = true → r2.1.getD j false = true
  got : ∀ s ∈ ss, r2.1.getD s.toNat false = true
  new : ∀ j : Nat, r2.1.getD j false = true → r.1.getD j false = true ∨ ∃ s ∈ ss, s.toNat = j ∧ s ∈ r2.2
  old : ∀ s ∈ r.2, s ∈ r2.2
  from_ : ∀ s ∈ r2.2, s ∈ r.2 ∨ (s ∈ ss ∧ r.1.getD s.toNat false = false)
theorem markAll_out : ∀ (ss : List Int) (r : List Bool × List Int), (∀ s ∈ ss, 0 ≤ s ∧ s.toNat < r.1.length) → MarkOut r ss (markAll r ss)
  | [], r, _ => ⟨rfl, rfl, fun _ h => h, fun s h => (by cases h), fun j h => .inl h, fun s h => h, fun s h => .inl h⟩
  | s :: ss, r, h => by
    obtain ⟨s0, s1⟩ := h s List.mem_cons_self
    show MarkOut r (s :: ss) (markAll (markStep r s) ss)
    unfold markStep
    by_cases c : r.1.getD s.toNat false = false
    · rw [if_pos c]
      obtain ⟨a1, a2, a3, a4, a5, a6, a7⟩ := markAll_out ss (r.1.set s.toNat true, r.2 ++ [s]) (fun x hx => by
        obtain ⟨x0, x1⟩ := h x (List.mem_cons_of_mem _ hx)
        exact ⟨x0, by show x.toNat < (r.1.set s.toNat true).length; rw [List.length_set]; exact x1⟩)
      have hc := cntF_set s1 c
      have up1 : ∀ j : Nat, r.1.getD j false = true → (r.1.set s.toNat true).getD j false = true := fun j hj => by
        rw [getD_set s1]
        split
        · rfl
        · exact hj
      have self1 : (r.1.set s.toNat true).getD s.toNat false = true := by rw [getD_set s1, if_pos rfl]
      have mem1 : s ∈ (markAll (r.1.set s.toNat true, r.2 ++ [s]) ss).2 := a6 s (List.mem_append_right _ (List.mem_singleton.mpr rfl))
      refine ⟨by rw [a1]; exact List.length_set, by rw [a2]; show (r.2 ++ [s]).length + _ = _; rw [List.length_append]; simp only [List.length_cons, List.length_nil]; omega, fun j hj => a3 j (up1 j hj), fun x hx => ?_, fun j hj => ?_, fun x hx => a6 x (List.mem_append_left _ hx), fun x hx => ?_⟩
      · rcases List.mem_cons.mp hx with rfl | hx
        · exact a3 _ self1
        · exact a4 x hx
      · rcases a5 j hj with q | ⟨x, x1, x2, x3⟩
        · rw [show (r.1.set s.toNat true, r.2 ++ [s]).1 = r.1.set s.toNat true from rfl, getD_set s1] at q
          by_cases e : s.toNat = j
          · exact .inr ⟨s, List.mem_cons_self, e, mem1⟩
          · rw [if_neg e] at q; exact .inl q
        · exact .inr ⟨x, List.mem_cons_of_mem _ x1, x2, x3⟩
      · rcases a7 x hx with q | ⟨q1, q2⟩
        · rcases List.mem_append.mp q with q | q
          · exact .inl q
          · rw [List.mem_singleton.mp q]; exact .inr ⟨List.mem_cons_self, c⟩
        · refine .inr ⟨List.mem_cons_of_mem _ q1, ?_⟩
          cases e : r.1.getD x.toNat false with
          | false => rfl
          | true =>
            have := up1 _ e
            rw [show (r.1.set s.toNat true, r.2 ++ [s]).1 = r.1.set s.toNat true from rfl, this] at q2
            cases q2
    · rw [if_neg c]
      have c2 : r.1.getD s.toNat false = true := by cases e : r.1.getD s.toNat false; exact absurd e c; rfl
      obtain ⟨a1, a2, a3, a4, a5, a6, a7⟩ := markAll_out ss r (fun x hx => h x (List.mem_cons_of_mem _ hx))
      refine ⟨a1, a2, a3, fun x hx => ?_, fun j hj => ?_, a6, fun x hx => ?_⟩
      · rcases List.mem_cons.mp hx with rfl | hx
        · exact a3 _ c2
        · exact a4 x hx
      · rcases a5 j hj with q | ⟨x, x1, x2, x3⟩
        · exact .inl q
        · exact .inr ⟨x, List.mem_cons_of_mem _ x1, x2, x3⟩
      · rcases a7 x hx with q | ⟨q1, q2⟩
        · exact .inl q
        · exact .inr ⟨List.mem_cons_of_mem _ q1, q2⟩
structure StayInv (p : Plan) (outs : List Int) (k : List Bool) (w : List Int) : Prop where
  len : (k.length : Int) = p.lines
  inp : ∀ l : Int, 0 ≤ l → l < p.many → k.getD l.toNat false = true
  snd : ∀ l : Int, 0 ≤ l → l < p.lines → k.getD l.toNat false = true → Kept p outs l
  wt : ∀ l ∈ w, p.many ≤ l ∧ l < p.lines ∧ Kept p outs l
  out : ∀ o ∈ outs, k.getD o.toNat false = true
  cl : ∀ y : Int, p.many ≤ y → y < p.lines → k.getD y.toNat false = true → y ∈ w ∨ ∀ s ∈ (gateN p y).srcs, k.getD s.toNat false = true
def stay0 (p : Plan) (outs : List Int) : List Bool := (List.range p.lines.toNat).map fun i : Nat => decide ((i : Int) < p.many) || decide ((i : Int) ∈ outs)
def fresh0 (p : Plan) (outs : List Int) : List Int := outs.filter fun l => decide (l ≥ p.many)
theorem stay0_get {p : Plan} {outs : List Int} {l : Int} (l0 : 0 ≤ l) (l1 : l < p.lines) : (stay0 p outs).getD l.toNat false = (decide (l < p.many) || decide (l ∈ outs)) := by
  unfold stay0
  rw [List.getD_eq_getElem?_getD, List.getElem?_map, List.getElem?_range (by omega)]
  show (decide (((l.toNat : Nat) : Int) < p.many) || decide (((l.toNat : Nat) : Int) ∈ outs)) = _
  rw [show ((l.toNat : Nat) : Int) = l by omega]
theorem stayInv0 {p : Plan} {outs : List Int} (v : Valid p) (ho : ∀ o ∈ outs, 0 ≤ o ∧ o < p.lines) : StayInv p outs (stay0 p outs) (fresh0 p outs) := by
  have m0 := v.m0
  have hl : 0 ≤ p.lines := by unfold Plan.lines; omega
  refine ⟨by unfold stay0; rw [List.length_map, List.length_range]; omega, fun l l0 l1 => ?_, fun l l0 l1 h => ?_, fun l h => ?_, fun o h => ?_, fun y y0 y1 h => ?_⟩
  · rw [stay0_get l0 (by unfold Plan.lines; omega), decide_eq_true l1]; rfl
  · rw [stay0_get l0 l1, Bool.or_eq_true] at h
    rcases h with h | h
    · exact .inp l0 (of_decide_eq_true h)
    · exact .out (of_decide_eq_true h)
  · obtain ⟨h1, h2⟩ := List.mem_filter.mp h
    have := of_decide_eq_true h2
    exact ⟨by omega, (ho l h1).2, .out h1⟩
  · rw [stay0_get (ho o h).1 (ho o h).2, decide_eq_true h, Bool.or_true]
  · rw [stay0_get (by omega) y1, decide_eq_false (show ¬ y < p.many by omega), Bool.false_or] at h
    exact .inl (List.mem_filter.mpr ⟨of_decide_eq_true h, decide_eq_true y0⟩)
def srcsAll (p : Plan) (w : List Int) : List Int := w.flatMap fun y => (gateN p y).srcs
theorem StayInv.turn {p : Plan} {outs : List Int} {k : List Bool} {w : List Int} (v : Valid p) (h : StayInv p outs k w) :
    StayInv p outs (markAll (k, []) (srcsAll p w)).1 (markAll (k, []) (srcsAll p w)).2 ∧ (markAll (k, []) (srcsAll p w)).2.length + cntF (markAll (k, []) (srcsAll p w)).1 = cntF k := by
  have m0 := v.m0
  have hlen := h.len
  have hss : ∀ s ∈ srcsAll p w, 0 ≤ s ∧ s < p.lines ∧ Kept p outs s := fun s hs => by
    obtain ⟨y, hy, hs2⟩ := List.mem_flatMap.mp hs
    obtain ⟨y0, y1, yk⟩ := h.wt y hy
    obtain ⟨_, hgm⟩ := gateN_get y0 y1
    obtain ⟨_, hsr, _⟩ := gate_ok (v.gate _ hgm)
    exact ⟨(hsr s hs2).1, (hsr s hs2).2, .src yk y0 y1 hs2⟩
  obtain ⟨a1, a2, a3, a4, a5, a6, a7⟩ := markAll_out (srcsAll p w) (k, []) fun s hs => by
    obtain ⟨s0, s1, _⟩ := hss s hs
    exact ⟨s0, by show s.toNat < k.length; omega⟩
  generalize markAll (k, []) (srcsAll p w) = r at *
  refine ⟨⟨by rw [a1]; exact hlen, fun l l0 l1 => a3 _ (h.inp l l0 l1), fun l l0 l1 hl => ?_, fun l hl => ?_, fun o ho => a3 _ (h.out o ho), fun y y0 y1 hy => ?_⟩, by rw [a2]; show 0 + cntF k = cntF k; omega⟩
  · rcases a5 _ hl with q | ⟨s, s1, s2, _⟩
    · exact h.snd l l0 l1 q
    · obtain ⟨s0, _, sk⟩ := hss s s1
      rw [show l = s by omega]; exact sk
  · rcases a7 l hl with q | ⟨q1, q2⟩
    · cases q
    · obtain ⟨s0, s1, sk⟩ := hss l q1
      refine ⟨?_, s1, sk⟩
      by_cases c : l < p.many
      · have := h.inp l s0 c
        rw [show (k, ([] : List Int)).1 = k from rfl, this] at q2; cases q2
      · omega
  · rcases a5 _ hy with q | ⟨s, s1, s2, s3⟩
    · right
      rcases h.cl y y0 y1 q with c | c
      · exact fun s hs => a4 s (List.mem_flatMap.mpr ⟨y, c, hs⟩)
      · exact fun s hs => a3 _ (c s hs)
    · obtain ⟨s0, _, _⟩ := hss s s1
      rw [show y = s by omega]; exact .inl s3
theorem StayInv.done {p : Plan} {outs : List Int} {k : List Bool} (v : Valid p) (ho : ∀ o ∈ outs, 0 ≤ o ∧ o < p.lines) (h : StayInv p outs k []) : ∀ l : Int, 0 ≤ l → l < p.lines → (k.getD l.toNat false = true ↔ Kept p outs l) :=
  kept_closed v ho h.inp h.snd h.out fun y y0 y1 hy => (h.cl y y0 y1 hy).elim (fun z => by cases z) id

/-! ### the trimmed plan -/
def plIn (st : List Int) (s : Int) : Int := (st.idxOf s : Int)
theorem idxOf_at : ∀ {st : List Int} {i : Nat} {s : Int}, st.Nodup → st[i]? = some s → st.idxOf s = i
  | [], i, s, _, h => by simp at h
  | x :: r, 0, s, _, h => by
    have : x = s := by simpa using h
    subst this
    exact List.idxOf_cons_self
  | x :: r, i + 1, s, nd, h => by
    obtain ⟨n1, n2⟩ := List.nodup_cons.mp nd
    have h2 : r[i]? = some s := by simpa using h
    have ih := idxOf_at n2 h2
    have hne : ¬ x = s := fun e => n1 (e ▸ List.mem_of_getElem? h2)
    rw [List.idxOf_cons, ih, beq_false_of_ne hne]; rfl
theorem idxOf_get {st : List Int} {s : Int} (nd : st.Nodup) (h : s ∈ st) : st[st.idxOf s]? = some s := by
  obtain ⟨i, hi, he⟩ := List.getElem_of_mem h
  have h2 : st[i]? = some s := by rw [List.getElem?_eq_getElem hi, he]
  rw [idxOf_at nd h2]; exact h2
def trimG (st : List Int) (g : Gate) : Gate := ⟨g.kind, g.srcs.map (plIn st), g.delay⟩
noncomputable def gateLs (p : Plan) (outs : List Int) : List Int := (keptL p outs).filter fun l => decide (l ≥ p.many)
noncomputable def trimP (p : Plan) (outs : List Int) : Plan := ⟨p.many, (gateLs p outs).map fun l => trimG (keptL p outs) (gateN p l)⟩
noncomputable def trimR (p : Plan) (outs : List Int) : Except Err (Plan × List Int) := match errPlan p with
  | some e => .error e
  | none => if (outs.all fun o => decide (0 ≤ o) && decide (o < p.lines)) = true then .ok (trimP p outs, keptL p outs) else .error .line
theorem trimR_ok {p : Plan} {outs : List Int} (v : Valid p) (ho : ∀ o ∈ outs, 0 ≤ o ∧ o < p.lines) : trimR p outs = .ok (trimP p outs, keptL p outs) := by
  unfold trimR
  rw [valid_iff.mpr v]
  have : (outs.all fun o => decide (0 ≤ o) && decide (o < p.lines)) = true := List.all_eq_true.mpr fun o h => by
    have := ho o h
    rw [decide_eq_true this.1, decide_eq_true this.2]; rfl
  simp only [this, if_true]
theorem trimR_line {p : Plan} {outs : List Int} (v : Valid p) {o : Int} (h : o ∈ outs) (hn : ¬ (0 ≤ o ∧ o < p.lines)) : trimR p outs = .error .line := by
  unfold trimR
  rw [valid_iff.mpr v]
  have : (outs.all fun o => decide (0 ≤ o) && decide (o < p.lines)) = false := List.all_eq_false.mpr ⟨o, h, by
    intro h2
    rw [Bool.and_eq_true] at h2
    exact hn ⟨of_decide_eq_true h2.1, of_decide_eq_true h2.2⟩⟩
  simp only [this]
  rfl
open Classical in
/-- the inputs, then the gates that stay -/
theorem keptL_split {p : Plan} {outs : List Int} (m0 : 0 ≤ p.many) : keptL p outs = ((List.range p.many.toNat).map fun i : Nat => (i : Int)) ++ gateLs p outs := by
  have e : keptL p outs = ((List.range p.many.toNat).map fun i : Nat => (i : Int)) ++ (((List.range p.gates.length).map (fun i => p.many.toNat + i)).filter fun i : Nat => decide (Kept p outs (i : Int))).map fun i : Nat => (i : Int) := by
    unfold keptL
    rw [show p.lines.toNat = p.many.toNat + p.gates.length by unfold Plan.lines; omega, List.range_add, List.filter_append, List.map_append]
    congr 2
    rw [List.filter_eq_self]
    intro i hi
    have := List.mem_range.mp hi
    exact decide_eq_true (.inp (by omega) (by omega))
  have e2 : gateLs p outs = (((List.range p.gates.length).map (fun i => p.many.toNat + i)).filter fun i : Nat => decide (Kept p outs (i : Int))).map fun i : Nat => (i : Int) := by
    unfold gateLs
    rw [e, List.filter_append]
    have z1 : (((List.range p.many.toNat).map fun i : Nat => (i : Int)).filter fun l => decide (l ≥ p.many)) = [] := by
      rw [List.filter_eq_nil_iff]
      intro l hl
      obtain ⟨i, hi, rfl⟩ := List.mem_map.mp hl
      have := List.mem_range.mp hi
      simp; omega
    rw [z1, List.nil_append, List.filter_eq_self]
    intro l hl
    obtain ⟨i, hi, rfl⟩ := List.mem_map.mp hl
    obtain ⟨j, hj, rfl⟩ := List.mem_map.mp (List.mem_filter.mp hi).1
    exact decide_eq_true (by omega)
  rw [← e2] at e
  exact e
theorem keptL_get {p : Plan} {outs : List Int} (m0 : 0 ≤ p.many) (i : Nat) : (keptL p outs)[p.many.toNat + i]? = (gateLs p outs)[i]? := by
  rw [keptL_split m0, List.getElem?_append_right (by rw [List.length_map, List.length_range]; omega), List.length_map, List.length_range]
  congr 1; omega
theorem keptL_inp {p : Plan} {outs : List Int} (m0 : 0 ≤ p.many) {l : Int} (l0 : 0 ≤ l) (l1 : l < p.many) : (keptL p outs)[l.toNat]? = some l := by
  rw [keptL_split m0, List.getElem?_append_left (by rw [List.length_map, List.length_range]; omega), List.getElem?_map, List.getElem?_range (by omega)]
  exact congrArg some (Int.toNat_of_nonneg l0)
theorem trim_lines {p : Plan} {outs : List Int} (m0 : 0 ≤ p.many) : (trimP p outs).lines = ((keptL p outs).length : Int) := by
  show p.many + (((gateLs p outs).map _).length : Int) = _
  rw [keptL_split m0, List.length_append, List.length_map, List.length_map, List.length_range]
  omega
theorem plIn_in {p : Plan} {outs : List Int} {s : Int} (h : s ∈ keptL p outs) : 0 ≤ plIn (keptL p outs) s ∧ plIn (keptL p outs) s < (keptL p outs).length := by
  have := List.idxOf_lt_length_of_mem h
  unfold plIn
  omega
/-- a gate of it -/
theorem trim_gate {p : Plan} {outs : List Int} (v : Valid p) (ho : ∀ o ∈ outs, 0 ≤ o ∧ o < p.lines) {i : Nat} {g : Gate} (h : (trimP p outs).gates[i]? = some g) :
    ∃ l, (gateLs p outs)[i]? = some l ∧ (keptL p outs)[p.many.toNat + i]? = some l ∧ p.many ≤ l ∧ l < p.lines ∧ g = trimG (keptL p outs) (gateN p l) ∧ ∀ s ∈ (gateN p l).srcs, s ∈ keptL p outs := by
  have h2 : ((gateLs p outs).map fun l => trimG (keptL p outs) (gateN p l))[i]? = some g := h
  rw [List.getElem?_map] at h2
  cases e : (gateLs p outs)[i]? with
  | none => rw [e] at h2; cases h2
  | some l =>
    rw [e] at h2
    obtain ⟨h3, h4⟩ := List.mem_filter.mp (List.mem_of_getElem? e)
    have hk := (mem_keptL v ho).mp h3
    have l0 := of_decide_eq_true h4
    have l1 := (hk.range v ho).2
    exact ⟨l, rfl, by rw [keptL_get v.m0]; exact e, l0, l1, (Option.some.inj h2).symm, fun s hs => (mem_keptL v ho).mpr (.src hk l0 l1 hs)⟩
theorem trim_valid {p : Plan} {outs : List Int} (v : Valid p) (ho : ∀ o ∈ outs, 0 ≤ o ∧ o < p.lines) : Valid (trimP p outs) := by
  have hl := trim_lines (outs := outs) v.m0
  have hk := keptL_len p outs
  have m0 := v.m0
  refine ⟨v.m0, v.m60, ?_, fun g hg => ?_⟩
  · have n2 := v.n200
    unfold Plan.lines at hl hk
    have e : (trimP p outs).many = p.many := rfl
    rw [e] at hl
    omega
  · obtain ⟨i, hi, he⟩ := List.getElem_of_mem hg
    obtain ⟨l, _, _, l0, l1, rfl, hs⟩ := trim_gate v ho (show (trimP p outs).gates[i]? = some g by rw [List.getElem?_eq_getElem hi, he])
    obtain ⟨_, hgm⟩ := gateN_get l0 l1
    obtain ⟨⟨lo, hi', hw, hlo, hhi⟩, _, hd⟩ := gate_ok (v.gate _ hgm)
    refine gate_err (lo := lo) (hi := hi') hw (by unfold trimG; simp only [List.length_map]; exact ⟨hlo, hhi⟩) (fun s hs2 => ?_) hd
    obtain ⟨s', hs', rfl⟩ := List.mem_map.mp hs2
    have := plIn_in (hs s' hs')
    rw [hl]; exact this
theorem trim_str {p : Plan} {outs : List Int} (v : Valid p) (ho : ∀ o ∈ outs, 0 ≤ o ∧ o < p.lines) (h : ∀ g ∈ p.gates, PyData.strOk g.kind = true) : ∀ g ∈ (trimP p outs).gates, PyData.strOk g.kind = true := fun g hg => by
  obtain ⟨i, hi, he⟩ := List.getElem_of_mem hg
  obtain ⟨l, _, _, l0, l1, rfl, _⟩ := trim_gate v ho (show (trimP p outs).gates[i]? = some g by rw [List.getElem?_eq_getElem hi, he])
  show PyData.strOk (gateN p l).kind = true
  exact h _ (gateN_get l0 l1).2
theorem free_of_order {p : Plan} {f : List Int} (h : orderM p = .ok f) : Free p := by
  obtain ⟨v, _, _⟩ := order_ok h
  obtain ⟨nd, hm⟩ := order_mem h
  refine ⟨fun l => if l < p.many then 0 else f.idxOf l + 1, fun i g hg s hs => ?_⟩
  have hi := (List.getElem?_eq_some_iff.mp hg).1
  have m0 := v.m0
  have hmem : p.many + (i : Int) ∈ f := (hm _).mpr ⟨by omega, by unfold Plan.lines; omega⟩
  have hg2 := idxOf_get nd hmem
  have egt : gateN p (p.many + (i : Int)) = g := by
    unfold gateN
    rw [List.getD_eq_getElem?_getD, show (p.many + (i : Int) - p.many).toNat = i by omega, hg]; rfl
  obtain ⟨s0, s1, hd⟩ := order_srcs h hg2 s (by rw [egt]; exact hs)
  simp only [if_neg (show ¬ p.many + (i : Int) < p.many by omega)]
  by_cases c : s < p.many
  · rw [if_pos c]; omega
  · rw [if_neg c]
    rcases hd with hd | hd
    · omega
    · obtain ⟨k, hk, hke⟩ := List.getElem_of_mem hd
      rw [List.length_take] at hk
      rw [List.getElem_take] at hke
      have := idxOf_at nd (show f[k]? = some s by rw [List.getElem?_eq_getElem (by omega), hke])
      omega
theorem trim_free {p : Plan} {outs : List Int} (v : Valid p) (ho : ∀ o ∈ outs, 0 ≤ o ∧ o < p.lines) (h : Free p) : Free (trimP p outs) := by
  obtain ⟨rk, hr⟩ := h
  have m0 := v.m0
  have nd := keptL_nodup p outs
  refine ⟨fun l => rk ((keptL p outs).getD l.toNat 0), fun i g hg s hs => ?_⟩
  obtain ⟨l, _, hl, l0, l1, rfl, hsk⟩ := trim_gate v ho hg
  obtain ⟨s', hs', rfl⟩ := List.mem_map.mp hs
  have e1 : (keptL p outs).getD (plIn (keptL p outs) s').toNat 0 = s' := by
    unfold plIn
    rw [Int.toNat_natCast, List.getD_eq_getElem?_getD, idxOf_get nd (hsk s' hs')]; rfl
  have e2 : (keptL p outs).getD ((trimP p outs).many + (i : Int)).toNat 0 = l := by
    show (keptL p outs).getD (p.many + (i : Int)).toNat 0 = l
    rw [show (p.many + (i : Int)).toNat = p.many.toNat + i by omega, List.getD_eq_getElem?_getD, hl]; rfl
  simp only [e1, e2]
  obtain ⟨hg1, _⟩ := gateN_get l0 l1
  have := hr _ _ hg1 s' hs'
  rw [show p.many + (((l - p.many).toNat : Nat) : Int) = l by omega] at this
  exact this
theorem trim_solves {p : Plan} {outs : List Int} {ins vs : List Bool} (v : Valid p) (ho : ∀ o ∈ outs, 0 ≤ o ∧ o < p.lines) (h : Solves p ins vs) : Solves (trimP p outs) ins ((keptL p outs).map fun l => vs.getD l.toNat false) := by
  have m0 := v.m0
  have nd := keptL_nodup p outs
  have hl := trim_lines (outs := outs) m0
  have get : ∀ (i : Nat) l, (keptL p outs)[i]? = some l → ((keptL p outs).map fun l => vs.getD l.toNat false).getD i false = vs.getD l.toNat false := fun i l hi => by
    rw [List.getD_eq_getElem?_getD, List.getElem?_map, hi]; rfl
  refine ⟨by rw [List.length_map, hl], fun l l0 l1 => ?_, fun l l0 l1 => ?_⟩
  · rw [get _ l (keptL_inp m0 l0 l1)]
    exact h.ins l l0 l1
  · have l0' : p.many ≤ l := l0
    have hi : (l - p.many).toNat < (trimP p outs).gates.length := by
      have : (trimP p outs).lines = p.many + ((trimP p outs).gates.length : Int) := rfl
      omega
    obtain ⟨x, _, hx, x0, x1, hg, hsk⟩ := trim_gate v ho (List.getElem?_eq_getElem hi)
    rw [show p.many.toNat + (l - p.many).toNat = l.toNat by omega] at hx
    rw [get _ x hx, h.gat x x0 x1]
    have egt : gateN (trimP p outs) l = trimG (keptL p outs) (gateN p x) := by
      show (trimP p outs).gates.getD (l - p.many).toNat ⟨"", [], 0⟩ = _
      rw [List.getD_eq_getElem?_getD, List.getElem?_eq_getElem hi, ← hg]; rfl
    unfold ansF gateV
    rw [egt]
    show answerV (gateN p x).kind (bitsOf vs (gateN p x).srcs) = answerV (gateN p x).kind (bitsOf _ ((gateN p x).srcs.map (plIn (keptL p outs))))
    congr 1
    unfold bitsOf
    rw [List.map_map]
    refine List.map_congr_left fun s hs => ?_
    show vs.getD s.toNat false = ((keptL p outs).map fun l => vs.getD l.toNat false).getD (plIn (keptL p outs) s).toNat false
    unfold plIn
    rw [Int.toNat_natCast, get _ s (idxOf_get nd (hsk s hs))]
/-- settled, it has the values of the whole -/
theorem trim_settled {p : Plan} {outs : List Int} {ins : List Bool} (v : Valid p) (ho : ∀ o ∈ outs, 0 ≤ o ∧ o < p.lines) (hr : ringedB p = false) (hi : (ins.length : Int) = p.many) :
    settledR (trimP p outs) ins = .ok ((keptL p outs).map fun l => (settleBy p ins (goneM p).1).getD l.toNat false) := by
  have o1 := order_of_free v hr
  have v2 := trim_valid v ho
  have o2 := order_free v2 (trim_free v ho (free_of_order o1))
  rw [settled_ok o2 hi]
  congr 1
  exact solves_unique o2 (settle_solves o2 hi) (trim_solves v ho (settle_solves o1 hi))
/-! ### dicts, insert, index within comprehensions -/
def rInsert : V → List V → Hp → VK → Prop := fun x vs H Q => ∃ (l : Addr) (xs : List V) (i : Int) (y : V), x = .ref l ∧ vs = [.int i, y] ∧ H l = some (.lst xs) ∧ xs.length < sizeLine ∧ 0 ≤ i ∧ i < 2 ^ 63 ∧
    Q .non (upd H l (.lst (xs.take i.toNat ++ [y] ++ xs.drop i.toNat)))
theorem mt_insertS {X : Cx} : MtR X "list.insert" rInsert := mt_insert
theorem mt_indexK (K : PySem.W.Frag) {X : Cx} (h : X.K = K := by rfl) : MtR X "list.index" (rIndex K) := h ▸ mt_index
section
variable {X : Cx} {o e : Expr} {es : List Expr} {to : TE} {t : TA} {name : Str} {apos cpos : Pos} {T id : String} {r : V → List V → Hp → VK → Prop}
theorem pe_bmK (K : PySem.W.Frag) (pa : PlainAttrs T) (slot : Slot T name id) (hty : typeOf (.builtin id) = pure (.type "method_descriptor")) (hm : MtR X id r) (ho : PE X o to) (ha : PA X (e :: es) t) (h : X.K = K := by rfl)
    (hbase : attributeBase o name X.env (eval o X.env) = eval o X.env := by rfl)
    (hfew : ((backTo cpos (starEach (e :: es) X.env)).all (fun x => !x.1) && (backToKw cpos (keywordEach [] X.env)).all (fun x => x.1.isSome) && decide ((e :: es).length + ([] : List Keyword).length + (if ([] : List Keyword).isEmpty then 0 else 1) < 30)) = true := by rfl)
    (hline : (apos.endLine == cpos.line) = true := by rfl) (hs : starEach (e :: es) X.env = (false, eval e X.env) :: starEach es X.env := by rfl) (hplain : (backTo cpos (starEach es X.env)).any (·.1) = false := by rfl) :
    PE X (.Call (.Attribute o name apos) (e :: es) [] cpos) (tBM K T r to t) := h ▸ pe_bm pa slot hty hm ho ha hbase hfew hline hs hplain
end
section
variable {σ : L2.St} {G : Hp} {td ty tv ta : TE} {a : Addr} {kvs : List (Key × V)} {k : Key} {v : V} {D : Ends} {tz : TS} {K : PySem.W.Frag} {tb : TE} {xs : List V} {i : Int} {l : Addr}
theorem ep_dnew : EvP tDNewK σ G fun v G' => ∃ a, v = .ref a ∧ G a = none ∧ G' = upd G a (.dK []) := fun H e Q q a ha => q _ (upd G a (.dK [])) _ (Ex.new (e.none ha)) (Ex.put e) (Ex.new ha) ⟨a, rfl, e.none ha, rfl⟩
theorem ev_dget (hd : Ev td σ G (.ref a)) (hi : Ev ty σ G (kV k)) (hl : G a = some (.dK kvs)) (hv : valV kvs k = some v) : Ev (tDGet td ty) σ G v := fun H e Q q => hd H e _ fun H1 e1 => hi H1 (e.trans e1) _ fun H2 e2 => ⟨a, v, rfl, by rw [← hv]; exact DGet.k (((e.trans e1).trans e2) _ _ hl), q H2 (e1.trans e2)⟩
theorem go_dput (hv : Ev tv σ G v) (hd : Ev td σ G (.ref a)) (hi : Ev ty σ G (kV k)) (hl : G a = some (.dK kvs)) (hz : kvs.length < 100000) (c : Go tz D σ (upd G a (.dK (putK kvs k v)))) : Go (tSeq (sDPut td ty tv) tz) D σ G := fun H e =>
  hv H e _ fun H1 e1 => hd H1 (e.trans e1) _ fun H2 e2 => hi H2 ((e.trans e1).trans e2) _ fun H3 e3 => ⟨a, _, rfl, DPut.k ((((e.trans e1).trans e2).trans e3) _ _ hl) (sz_lt hz), c _ (Ex.put (((e.trans e1).trans e2).trans e3))⟩
theorem go_insert (ha : Ev ta σ G (.ref l)) (hl : G l = some (.lst xs)) (hi : Ev tb σ G (.int i)) (hv : Ev tv σ G v) (hz : xs.length < 100000) (h0 : 0 ≤ i) (h1 : i < 2 ^ 63) (c : Go tz D σ (upd G l (.lst (xs.take i.toNat ++ [v] ++ xs.drop i.toNat)))) :
    Go (tSeq (tDrop (tBM K "list" rInsert ta (tCons tb (tCons tv tNil)))) tz) D σ G := fun H e => ha H e _ fun H1 e1 => ⟨Or.inl ⟨rfl, xs, sq_of (e1 l _ (e l _ hl))⟩, hi H1 (e.trans e1) _ fun H2 e2 => hv H2 ((e.trans e1).trans e2) _ fun H3 e3 =>
  ⟨l, xs, i, v, rfl, rfl, (((e.trans e1).trans e2).trans e3) _ _ hl, sz_lt hz, h0, h1, c _ (Ex.put (((e.trans e1).trans e2).trans e3))⟩⟩
end
theorem putK_len (kvs : List (Key × V)) (k : Key) (v : V) : (putK kvs k v).length ≤ kvs.length + 1 := by
  unfold putK
  split
  · rw [List.length_map]; omega
  · rw [List.length_append]; simp
theorem gateD_shaped {g : Gate} (h : PyData.strOk g.kind = true) : SeqAt.shaped (gateD g) = true := by
  unfold SeqAt.shaped
  rw [gateD_lay h]
  have := gateD_deep g
  simp; omega

/-! ### tuples, cut and put together -/
def TupP (K : PySem.W.Frag) (xs : List V) (v : V) (G : Hp) : Prop := ∃ t, v = .ref t ∧ SqT K G t xs
section
variable {K : PySem.W.Frag} {σ : L2.St} {G : Hp} {ta tb tc te : TE} {tl th : TO} {xs ys : List V} {lo hi : Option Int} {x : V} {a : Addr} {k : Int}
theorem TupP.mono {v : V} {G' : Hp} (e : Ex G G') (h : TupP K xs v G) : TupP K xs v G' := by
  obtain ⟨t, h1, h2⟩ := h
  exact ⟨t, h1, ex_t e h2⟩
theorem ep_TupV (h : Ev ta σ G (.ref a)) (hs : SqT K G a xs) : EvP ta σ G (TupP K xs) := fun H e Q q => h H e Q fun H1 e1 => q (.ref a) G H1 (Ex.refl G) (e.trans e1) e1 ⟨a, rfl, hs⟩
theorem ep_TupU (h : EvU ta σ G xs) : EvP ta σ G (TupP K xs) := (ep_U h).imp fun v G' _ ⟨p, hv, _, hG⟩ => ⟨p, hv, by rw [hG]; exact st_of upd_same⟩
theorem cutV_whole (h1 : HT.sIx xs.length 0 lo = 0) (h2 : HT.sIx xs.length xs.length hi = xs.length) : cutV xs lo hi = xs := by
  unfold cutV
  rw [h1, h2, List.drop_zero, Nat.sub_zero, List.take_length]
theorem ep_slT (h : EvP te σ G (TupP K xs)) (h1 : ∀ G', Ex G G' → EvO tl σ G' lo) (h2 : ∀ G', Ex G G' → EvO th σ G' hi) : EvP (tSl (rSlA K) te tl th) σ G (TupP K (cutV xs lo hi)) := fun H e Q q =>
  h H e _ fun v G1 H1 g1 g2 e1 ⟨t, hv, ht⟩ => h1 G1 g1 H1 g2 _ fun H2 e2 => h2 G1 g1 H2 (g2.trans e2) _ fun H3 e3 =>
    ⟨t, xs, hv, ex_t ((g2.trans e2).trans e3) ht, fun hw => q (.ref t) G1 H3 g1 ((g2.trans e2).trans e3) ((e1.trans e2).trans e3) ⟨t, rfl, by rw [cutV_whole hw.1 hw.2]; exact ht⟩,
      fun _ p hp => q (.ref p) (upd H3 p (.tup (cutV xs lo hi))) _ (g1.trans (((g2.trans e2).trans e3).trans (Ex.new hp))) (Ex.refl _) (((e1.trans e2).trans e3).trans (Ex.new hp)) ⟨p, rfl, st_of upd_same⟩⟩
theorem ep_catT (h : EvP ta σ G (TupP K xs)) (h2 : ∀ G', Ex G G' → EvP tb σ G' (TupP K ys)) (hz : xs.length + ys.length ≤ 100000) : EvP (tOp (rCatA K) ta tb) σ G (TupP K (xs ++ ys)) := fun H e Q q =>
  h H e _ fun v G1 H1 g1 g2 e1 ⟨t, hv, ht⟩ => h2 G1 g1 H1 g2 _ fun w G2 H2 k1 k2 e2 ⟨u, hw, hu⟩ =>
    ⟨t, u, xs, ys, hv, hw, ex_t (k1.trans k2) ht, ex_t k2 hu, sz_of hz, fun hx => q (.ref u) G2 H2 (g1.trans k1) k2 (e1.trans e2) ⟨u, rfl, by rw [hx]; exact hu⟩,
      fun _ hy => q (.ref t) G2 H2 (g1.trans k1) k2 (e1.trans e2) ⟨t, rfl, by rw [hy, List.append_nil]; exact ex_t k1 ht⟩,
      fun _ _ p hp => q (.ref p) (upd H2 p (.tup (xs ++ ys))) _ ((g1.trans k1).trans (k2.trans (Ex.new hp))) (Ex.refl _) ((e1.trans e2).trans (Ex.new hp)) ⟨p, rfl, st_of upd_same⟩⟩
theorem ep_repT (h : EvP ta σ G (TupP K [x])) (h2 : ∀ G', Ex G G' → Ev tb σ G' (.int k)) (h0 : 2 ≤ k) (h1 : k ≤ 1000) : EvP (tOp (rRepT K) ta tb) σ G (TupP K (List.replicate k.toNat x)) := fun H e Q q =>
  h H e _ fun v G1 H1 g1 g2 e1 ⟨t, hv, ht⟩ => h2 G1 g1 H1 g2 _ fun H2 e2 =>
    ⟨t, k, [x], hv, rfl, ex_t (g2.trans e2) ht, (fun z => by cases z), h0, h1, by show 1 ≤ 1000; decide, fun p hp => by
      have e3 : (List.replicate k.toNat [x]).flatten = List.replicate k.toNat x := by
        induction k.toNat with
        | zero => rfl
        | succ n ih => rw [List.replicate_succ, List.flatten_cons, ih]; rfl
      rw [e3]
      exact q (.ref p) (upd H2 p (.tup (List.replicate k.toNat x))) _ (g1.trans ((g2.trans e2).trans (Ex.new hp))) (Ex.refl _) ((e1.trans e2).trans (Ex.new hp)) ⟨p, rfl, st_of upd_same⟩⟩
/-- a gate of them -/
theorem ep_gateP {z : Str} {ss : List Int} {d : Int} (h1 : Ev ta σ G (.str z)) (h2 : EvP tb σ G (TupP K (ss.map V.int))) (h3 : ∀ G', Ex G G' → Ev tc σ G' (.int d)) : EvP (tTup (tCons ta (tCons tb (tCons tc tNil)))) σ G fun v G' => GateAt K G' v ⟨z, ss, d⟩ := fun H e Q q =>
  h1 H e _ fun H1 e1 => h2 H1 (e.trans e1) _ fun v G2 H2 g1 g2 e2 ⟨t, hv, ht⟩ => h3 G2 g1 H2 g2 _ fun H3 e3 => ⟨sz_of (by show 3 ≤ 100000; decide), fun p hp => q _ (upd H3 p (.tup [.str z, v, .int d])) _ (g1.trans ((g2.trans e3).trans (Ex.new hp))) (Ex.refl _) (((e1.trans e2).trans e3).trans (Ex.new hp))
    ⟨p, t, rfl, by rw [hv]; exact st_of upd_same, ex_t ((g2.trans e3).trans (Ex.new hp)) ht⟩⟩
/-- [x] * k, x made on the way -/
theorem ep_repR {β : Type} {R : Hp → V → β → Prop} {b : β} (L : Lasts R) (h : EvP ta σ G (LstOf R G [b])) (h2 : ∀ G', Ex G G' → Ev tb σ G' (.int k)) (h0 : -(2 ^ 63) ≤ k) (h1 : k ≤ 100000) : EvP (tOp rRep ta tb) σ G (LstOf R G (List.replicate k.toNat b)) := fun H e Q q =>
  h H e _ fun v G1 H1 g1 g2 e1 ⟨p, ws, hv, hp, hl, hR⟩ => h2 G1 g1 H1 g2 _ fun H2 e2 => by
    obtain ⟨w, rfl⟩ : ∃ w, ws = [w] := by
      have := hR.1
      match ws, this with
      | [w], _ => exact ⟨w, rfl⟩
    have hw : R G1 w b := hR.2 0 w b rfl rfl
    have e3 : (List.replicate k.toNat [w]).flatten = List.replicate k.toNat w := by
      induction k.toNat with
      | zero => rfl
      | succ n ih => rw [List.replicate_succ, List.flatten_cons, ih]; rfl
    refine ⟨p, k, [w], hv, rfl, e2 _ _ (g2 _ _ hl), h0, by omega, sz_of (by simp; omega), fun l hl2 => ?_⟩
    rw [e3]
    have e4 : Ex G1 (upd H2 l (.lst (List.replicate k.toNat w))) := (g2.trans e2).trans (Ex.new hl2)
    refine q (.ref l) _ _ (g1.trans e4) (Ex.refl _) ((e1.trans e2).trans (Ex.new hl2)) ⟨l, _, rfl, (g1.trans (g2.trans e2)).none hl2, upd_same, ?_⟩
    refine ⟨by rw [List.length_replicate, List.length_replicate], fun i x y hx hy => ?_⟩
    have hx2 := List.eq_of_mem_replicate (List.mem_of_getElem? hx)
    have hy2 := List.eq_of_mem_replicate (List.mem_of_getElem? hy)
    subst hx2 hy2
    exact L.mono _ _ _ _ e4 hw
end
/-! ### spoilt gates -/
def mutS (z : Str) (spot d : Nat) (l : Str) : Str := Txt.slice z none (some (spot : Int)) ++ l ++ Txt.slice z (some ((spot + d : Nat) : Int)) none
theorem mut_all : ∀ k : Fin 9, ∀ s : Fin 6, ∀ d : Fin 2, ∀ l : Fin 3, s.1 < (kinds9.getD k.1 "").length → least (mutS (kinds9.getD k.1 "") s.1 d.1 ((["A", "Z", "q"] : List Str).getD l.1 "")) = none ∧ PyData.strOk (mutS (kinds9.getD k.1 "") s.1 d.1 ((["A", "Z", "q"] : List Str).getD l.1 "")) = true := by decide +kernel
theorem kinds9_len : ∀ k : Fin 9, 0 < (kinds9.getD k.1 "").length ∧ (kinds9.getD k.1 "").length ≤ 6 := by decide +kernel
theorem four_all : ∀ k : Fin 4, least ((["", "and", "Not", "by"] : List Str).getD k.1 "") = none ∧ PyData.strOk ((["", "and", "Not", "by"] : List Str).getD k.1 "") = true := by decide +kernel
theorem least_at9 {z : Str} {i : Int} (h : least z = some i) : ∃ k : Nat, k < 9 ∧ z = kinds9.getD k "" := by
  rcases least_cases h with rfl | rfl | rfl | rfl | rfl | rfl | rfl | rfl | rfl
  · exact ⟨0, by decide, rfl⟩
  · exact ⟨1, by decide, rfl⟩
  · exact ⟨2, by decide, rfl⟩
  · exact ⟨3, by decide, rfl⟩
  · exact ⟨4, by decide, rfl⟩
  · exact ⟨5, by decide, rfl⟩
  · exact ⟨6, by decide, rfl⟩
  · exact ⟨7, by decide, rfl⟩
  · exact ⟨8, by decide, rfl⟩
theorem wants_least {z : Str} (h : least z = none) : wantsM z = .error .kind := by unfold wantsM; rw [h]
/-- what is wrong with it first -/
def spoiltE (way : Int) : Err := if way = 0 then .kind else if way = 1 then .sources else if way = 2 then .line else .delay
structure Spoilt (way lines : Int) (g : Gate) : Prop where
  str : PyData.strOk g.kind = true
  len : g.srcs.length ≤ 30
  w0 : way = 0 → wantsM g.kind = .error .kind
  w1 : way = 1 → ∃ lo hi, wantsM g.kind = .ok (lo, hi) ∧ ¬ (lo ≤ g.srcs.length ∧ (g.srcs.length : Int) ≤ hi)
  w2 : way = 2 → ∃ lo hi, wantsM g.kind = .ok (lo, hi) ∧ (lo ≤ g.srcs.length ∧ (g.srcs.length : Int) ≤ hi) ∧ ∃ s ∈ g.srcs, ¬ (0 ≤ s ∧ s < lines)
  w3 : way = 3 → ∃ lo hi, wantsM g.kind = .ok (lo, hi) ∧ (lo ≤ g.srcs.length ∧ (g.srcs.length : Int) ≤ hi) ∧ (∀ s ∈ g.srcs, 0 ≤ s ∧ s < lines) ∧ ¬ (1 ≤ g.delay ∧ g.delay ≤ 60)
theorem spoilt_err {way lines : Int} {g : Gate} (h0 : 0 ≤ way) (h1 : way < 4) (h : Spoilt way lines g) : errGate g lines = some (spoiltE way) := by
  have h4 : way = 0 ∨ way = 1 ∨ way = 2 ∨ way = 3 := by omega
  unfold errGate
  rcases h4 with rfl | rfl | rfl | rfl
  · rw [h.w0 rfl]; rfl
  · obtain ⟨lo, hi, hw, hn⟩ := h.w1 rfl
    rw [hw]
    show (if ¬ (lo ≤ (g.srcs.length : Int) ∧ (g.srcs.length : Int) ≤ hi) then some Err.sources else _) = _
    rw [if_pos hn]; rfl
  · obtain ⟨lo, hi, hw, hn, s, hs, hsn⟩ := h.w2 rfl
    rw [hw]
    show (if ¬ (lo ≤ (g.srcs.length : Int) ∧ (g.srcs.length : Int) ≤ hi) then some Err.sources else if (g.srcs.any fun s => !(decide (0 ≤ s) && decide (s < lines))) = true then some Err.line else _) = _
    rw [if_neg (fun x => x hn)]
    have : (g.srcs.any fun s => !(decide (0 ≤ s) && decide (s < lines))) = true := List.any_eq_true.mpr ⟨s, hs, by
      cases e : (decide (0 ≤ s) && decide (s < lines)) with
      | false => rfl
      | true =>
        rw [Bool.and_eq_true] at e
        exact absurd ⟨of_decide_eq_true e.1, of_decide_eq_true e.2⟩ hsn⟩
    rw [if_pos this]; rfl
  · obtain ⟨lo, hi, hw, hn, hs, hd⟩ := h.w3 rfl
    rw [hw]
    show (if ¬ (lo ≤ (g.srcs.length : Int) ∧ (g.srcs.length : Int) ≤ hi) then some Err.sources else if (g.srcs.any fun s => !(decide (0 ≤ s) && decide (s < lines))) = true then some Err.line else if ¬ (1 ≤ g.delay ∧ g.delay ≤ 60) then some Err.delay else none) = _
    rw [if_neg (fun x => x hn)]
    have : (g.srcs.any fun s => !(decide (0 ≤ s) && decide (s < lines))) = false := List.any_eq_false.mpr fun s h2 => by
      have := hs s h2
      rw [decide_eq_true this.1, decide_eq_true this.2]; decide
    rw [this, if_neg (by decide), if_pos hd]; rfl
theorem cutV_to (xs : List V) (b : Nat) : cutV xs none (some (b : Int)) = xs.take b := by
  unfold cutV
  rw [HT.sIx_nat, HT.sIx_none, List.drop_zero, Nat.sub_zero]
  by_cases c : b ≤ xs.length
  · rw [Nat.min_eq_left c]
  · rw [Nat.min_eq_right (by omega), List.take_length, List.take_of_length_le (by omega)]
theorem cutV_from (xs : List V) (a : Nat) : cutV xs (some (a : Int)) none = xs.drop a := by
  unfold cutV
  rw [HT.sIx_nat, HT.sIx_none]
  by_cases c : a ≤ xs.length
  · rw [Nat.min_eq_left c, List.take_of_length_le (by rw [List.length_drop]; exact Nat.le_refl _)]
  · rw [Nat.min_eq_right (by omega), List.drop_length, List.drop_of_length_le (by omega), List.take_nil]
theorem azq_at {m : Int} (h0 : 0 ≤ m) (h1 : m < 3) : ∃ ch : Nat, atI ("AZq" : Str).cps.toList m = some ch ∧ (["A", "Z", "q"] : List Str).getD m.toNat "" = ⟨#[ch]⟩ := by
  have h3 : m = 0 ∨ m = 1 ∨ m = 2 := by omega
  rcases h3 with rfl | rfl | rfl <;> exact ⟨_, rfl, rfl⟩
/-! ### list + list, of lists that stand -/
def rCatS (K : PySem.W.Frag) : R2 := fun x y H Q => ∃ l b xs zs, x = .ref l ∧ y = .ref b ∧ SqL K H l xs ∧ SqL K H b zs ∧ xs.length + zs.length ≤ sizeLine ∧ ∀ p, H p = none → Q (.ref p) (upd H p (.lst (xs ++ zs)))
section
open PySem.Spec PyProof.Rows
theorem o_catS (K : PySem.W.Frag) {X : Cx} (hK : X.K = K := by rfl) : OpR X (binaryOp .Add) (rCatS K) := by
  subst hK
  intro pins s σ H x y v u Q I rx ry h
  obtain ⟨l, b, xs, zs, rfl, rfl, h1, h2, hz, q⟩ := h
  cases rx
  cases ry
  obtain ⟨i1, r1, ⟨⟨c1, d1, t1, s1⟩, n1, g1, k1, _, w1⟩, _⟩ := I.list h1
  obtain ⟨i2, r2, ⟨⟨c2, d2, t2, s2⟩, n2, g2, k2, _, w2⟩, _⟩ := I.list h2
  simp only at k1 w1 k2 w2
  subst k1 w1 k2 w2
  have hs : (i1.toArray).size + (i2.toArray).size ≤ sizeLine := by rw [List.size_toArray, List.size_toArray, ← r1.length, ← r2.length]; exact hz
  refine concat_meets ⟨_, g1, rfl⟩ ⟨_, g2, rfl⟩ noFill_list_add seq_list_add PySem.F.slot_list_add PySem.F.entry_list_add (PySem.F.args_list_add_2 _ _) (list_addW l b i1.toArray i2.toArray n1 n2 d1 d2 s1 s2 hs) ⟨g1, g2, ?_⟩
  rw [show i1.toArray ++ i2.toArray = (i1 ++ i2).toArray by simp]
  exact ⟨.ref _, _, I.lnew (t' := s.toks) (r1.append r2) (by rw [List.length_append]; omega), rfl, q _ I.fresh⟩
end
theorem ep_catS {K : PySem.W.Frag} {σ : L2.St} {G : Hp} {ta tb : TE} {β : Type} {R : Hp → V → β → Prop} {bs cs : List β} {a : Addr} {ws : List V} (L : Lasts R) (ha : Ev ta σ G (.ref a)) (hl : SqL K G a ws) (hR : Rows (R G) ws bs) (hb : EvP tb σ G (LstOf R G cs)) (hz : bs.length + cs.length ≤ 100000) : EvP (tOp (rCatS K) ta tb) σ G (LstOf R G (bs ++ cs)) := fun H e Q q =>
  ha H e _ fun H1 e1 => hb H1 (e.trans e1) _ fun v G' H2 g1 g2 e2 ⟨p, zs, hv, hp, hG, hR2⟩ =>
    ⟨a, p, ws, zs, rfl, hv, ex_l ((e.trans e1).trans e2) hl, sq_of (g2 _ _ hG), sz_of (by rw [hR.1, hR2.1]; omega), fun pn hpn => q _ (upd G' pn (.lst (ws ++ zs))) _ (g1.trans (Ex.new (g2.none hpn))) (Ex.put g2) ((e1.trans e2).trans (Ex.new hpn))
      ⟨pn, ws ++ zs, rfl, g1.none (g2.none hpn), upd_same, rows_append (rows_imp hR fun _ _ r => L.mono _ _ _ _ (g1.trans (Ex.new (g2.none hpn))) r) (rows_imp hR2 fun _ _ r => L.mono _ _ _ _ (Ex.new (g2.none hpn)) r)⟩⟩

/-! ### deeds of a board, plain -/
structure Snap where
  p : Plan
  ins : List Bool
  lines : List Int
structure Stt where
  p : Plan
  ins : List Bool
  last : List Int
  past : List Snap
inductive Deed | put (l : Int) (b : Bool) | swap (l : Int) (g : Gate) | back
def swapP (p : Plan) (l : Int) (g : Gate) : Plan := ⟨p.many, p.gates.set (l - p.many).toNat g⟩
noncomputable def linesPut (p : Plan) (ins : List Bool) (l : Int) (b : Bool) : List Int := if ins.getD l.toNat false = b then [] else seersM p l
noncomputable def linesSwap (p : Plan) (l : Int) : List Int := (l :: seersM p l).mergeSort (fun a b => decide (a ≤ b))
noncomputable def doR (s : Stt) : Deed → Except Err Stt
  | .put l b => if 0 ≤ l ∧ l < s.p.many then .ok ⟨s.p, s.ins.set l.toNat b, linesPut s.p s.ins l b, s.past ++ [⟨s.p, s.ins, linesPut s.p s.ins l b⟩]⟩ else .error .line
  | .swap l g => if s.p.many ≤ l ∧ l < s.p.lines then match errGate g s.p.lines with
      | some e => .error e
      | none => if ringedB (swapP s.p l g) = true then .error .ringed else .ok ⟨swapP s.p l g, s.ins, linesSwap (swapP s.p l g) l, s.past ++ [⟨s.p, s.ins, linesSwap (swapP s.p l g) l⟩]⟩
    else .error .line
  | .back => match s.past.getLast? with
    | none => .error .deed
    | some t => .ok ⟨t.p, t.ins, t.lines, s.past.dropLast⟩
theorem doR_put {s : Stt} {l : Int} {b : Bool} : doR s (.put l b) = if 0 ≤ l ∧ l < s.p.many then .ok ⟨s.p, s.ins.set l.toNat b, linesPut s.p s.ins l b, s.past ++ [⟨s.p, s.ins, linesPut s.p s.ins l b⟩]⟩ else .error .line := rfl
theorem doR_swap {s : Stt} {l : Int} {g : Gate} : doR s (.swap l g) = if s.p.many ≤ l ∧ l < s.p.lines then (match errGate g s.p.lines with
      | some e => .error e
      | none => if ringedB (swapP s.p l g) = true then .error .ringed else .ok ⟨swapP s.p l g, s.ins, linesSwap (swapP s.p l g) l, s.past ++ [⟨s.p, s.ins, linesSwap (swapP s.p l g) l⟩]⟩)
    else .error .line := rfl
theorem doR_back {s : Stt} : doR s .back = match s.past.getLast? with
    | none => .error .deed
    | some t => .ok ⟨t.p, t.ins, t.lines, s.past.dropLast⟩ := rfl
/-- a right state: plan without a ring, so many inputs and gates -/
structure GoodP (m : Int) (n : Nat) (p : Plan) (ins : List Bool) : Prop where
  many : p.many = m
  num : p.gates.length = n
  val : Valid p
  free : ringedB p = false
  ins : (ins.length : Int) = p.many
structure Stt.Ok (m : Int) (n : Nat) (s : Stt) : Prop where
  now : GoodP m n s.p s.ins
  past : ∀ t ∈ s.past, GoodP m n t.p t.ins
def valsOf (p : Plan) (ins : List Bool) : List Bool := settleBy p ins (goneM p).1
theorem GoodP.order {m : Int} {n : Nat} {p : Plan} {ins : List Bool} (h : GoodP m n p ins) : orderM p = .ok (goneM p).1 := order_of_free h.val h.free
theorem GoodP.settled {m : Int} {n : Nat} {p : Plan} {ins : List Bool} (h : GoodP m n p ins) : settledR p ins = .ok (valsOf p ins) := settled_ok h.order h.ins
theorem GoodP.solves {m : Int} {n : Nat} {p : Plan} {ins : List Bool} (h : GoodP m n p ins) : Solves p ins (valsOf p ins) := settle_solves h.order h.ins
theorem swapP_lines {p : Plan} {l : Int} {g : Gate} : (swapP p l g).lines = p.lines := by
  unfold swapP Plan.lines; simp
theorem swapP_valid {p : Plan} {l : Int} {g : Gate} (v : Valid p) (h : errGate g p.lines = none) : Valid (swapP p l g) := by
  refine ⟨v.m0, v.m60, by unfold swapP; simp; exact v.n200, fun x hx => ?_⟩
  rw [swapP_lines]
  rcases List.mem_or_eq_of_mem_set hx with hx | rfl
  · exact v.gate x hx
  · exact h
theorem sorted_unique {xs ys : List Int} (h : xs.Perm ys) (h1 : xs.Pairwise (· ≤ ·)) (h2 : ys.Pairwise (· ≤ ·)) : xs = ys :=
  h.eq_of_pairwise (fun _ _ _ _ h h' => Int.le_antisymm h h') h1 h2
theorem linesSwap_is {p : Plan} {l : Int} {ns : List Int} (h : ns.Perm (l :: seersM p l)) (h1 : ns.Pairwise (· ≤ ·)) : ns = linesSwap p l := by
  refine sorted_unique (h.trans (List.mergeSort_perm _ _).symm) h1 ?_
  have := List.pairwise_mergeSort (le := fun a b : Int => decide (a ≤ b)) (fun a b c h h' => by simp at h h' ⊢; omega) (fun a b => by simp; omega) (l :: seersM p l)
  exact this.imp fun h => by simpa using h
theorem mem_linesSwap {p : Plan} {l x : Int} : x ∈ linesSwap p l ↔ x = l ∨ x ∈ seersM p l := by
  unfold linesSwap
  rw [(List.mergeSort_perm _ _).mem_iff, List.mem_cons]
theorem mem_seersM {p : Plan} {l x : Int} (m0 : 0 ≤ p.many) : x ∈ seersM p l ↔ Sees p l x := by
  unfold seersM
  constructor
  · intro h
    obtain ⟨i, hi, rfl⟩ := List.mem_map.mp h
    simpa using (List.mem_filter.mp hi).2
  · intro h
    have := h.range
    refine List.mem_map.mpr ⟨x.toNat, List.mem_filter.mpr ⟨List.mem_range.mpr (by omega), ?_⟩, by omega⟩
    have e : ((x.toNat : Nat) : Int) = x := Int.toNat_of_nonneg (by omega)
    simp only [e, decide_eq_true_eq]
    exact h
/-! answered anew -/
def redo (p : Plan) (ls : List Int) (f : List Int) (vs : List Bool) : List Bool := f.foldl (fun vs l => if l ∈ ls then vs.set l.toNat (ansF p vs l) else vs) vs
theorem redo_snoc {p : Plan} {ls f : List Int} {l : Int} {vs : List Bool} : redo p ls (f ++ [l]) vs = if l ∈ ls then (redo p ls f vs).set l.toNat (ansF p (redo p ls f vs) l) else redo p ls f vs := by
  unfold redo; rw [List.foldl_append]; rfl
theorem redo_len {p : Plan} {ls : List Int} : ∀ (f : List Int) (vs : List Bool), (redo p ls f vs).length = vs.length
  | [], _ => rfl
  | l :: r, vs => by
    have : redo p ls (l :: r) vs = redo p ls r (if l ∈ ls then vs.set l.toNat (ansF p vs l) else vs) := rfl
    rw [this, redo_len r]
    split
    · rw [List.length_set]
    · rfl
/-- what is known: the new plan's values ws; vs has them at the inputs and at what isn't to be told anew -/
theorem redo_ok {p : Plan} {f ls : List Int} {ws vs : List Bool} (h : orderM p = .ok f) (hl : vs.length = ws.length) (hw : (ws.length : Int) = p.lines) (hg : ∀ l : Int, p.many ≤ l → l < p.lines → ws.getD l.toNat false = ansF p ws l)
    (hk : ∀ l : Int, 0 ≤ l → l < p.lines → (l < p.many ∨ l ∉ ls) → vs.getD l.toNat false = ws.getD l.toNat false) : redo p ls f vs = ws := by
  obtain ⟨nd, hm⟩ := order_mem h
  obtain ⟨v, _, _⟩ := order_ok h
  have m0 := v.m0
  have key : ∀ k, k ≤ f.length → (∀ l : Int, 0 ≤ l → l < p.lines → (l < p.many ∨ l ∉ ls ∨ l ∈ f.take k) → (redo p ls (f.take k) vs).getD l.toNat false = ws.getD l.toNat false) := by
    intro k
    induction k with
    | zero =>
      intro _ l l0 l1 hl'
      rw [List.take_zero] at hl' ⊢
      refine hk l l0 l1 ?_
      rcases hl' with q | q | q
      · exact .inl q
      · exact .inr q
      · cases q
    | succ k ih =>
      intro hk1 l l0 l1 hl'
      have hlt : k < f.length := by omega
      have hfk : f[k]? = some f[k] := List.getElem?_eq_getElem hlt
      have ih := ih (by omega)
      have e : f.take (k + 1) = f.take k ++ [f[k]] := by rw [List.take_add_one, hfk]; rfl
      rw [e] at hl' ⊢
      rw [redo_snoc]
      obtain ⟨c0, c1⟩ := (hm f[k]).mp (List.getElem_mem hlt)
      have ha : ansF p (redo p ls (f.take k) vs) f[k] = ws.getD f[k].toNat false := by
        rw [hg _ c0 c1]
        refine ansF_local p _ _ _ fun s hs => ?_
        obtain ⟨s0, s1, hd⟩ := order_srcs h hfk s hs
        exact ih s s0 s1 (by rcases hd with q | q; exact .inl q; exact .inr (.inr q))
      have hcase : l = f[k] ∨ (l < p.many ∨ l ∉ ls ∨ l ∈ f.take k) := by
        rcases hl' with q | q | q
        · exact .inr (.inl q)
        · exact .inr (.inr (.inl q))
        · rcases List.mem_append.mp q with q | q
          · exact .inr (.inr (.inr q))
          · exact .inl (List.mem_singleton.mp q)
      by_cases c : f[k] ∈ ls
      · rw [if_pos c]
        by_cases hlk : l = f[k]
        · subst hlk
          rw [getD_set_eq (by rw [redo_len]; omega), ha]
        · rw [getD_set_ne (by omega)]
          rcases hcase with q | q
          · exact absurd q hlk
          · exact ih l l0 l1 q
      · rw [if_neg c]
        rcases hcase with rfl | q
        · exact ih _ l0 l1 (.inr (.inl c))
        · exact ih l l0 l1 q
  have kf := key f.length (Nat.le_refl _)
  rw [List.take_length] at kf
  have hlen : (redo p ls f vs).length = ws.length := by rw [redo_len]; exact hl
  refine List.ext_getElem hlen fun i h1 h2 => ?_
  have := kf (i : Int) (by omega) (by omega) (by
    by_cases c : (i : Int) < p.many
    · exact .inl c
    · exact .inr (.inr ((hm _).mpr ⟨by omega, by omega⟩)))
  rw [Int.toNat_natCast, List.getD_eq_getElem?_getD, List.getD_eq_getElem?_getD, List.getElem?_eq_getElem h1, List.getElem?_eq_getElem h2] at this
  exact this
/-- what isn't touched keeps its value: the plans have the same gates but at what is touched, and the touched are closed -/
theorem kept_vals {p p' : Plan} {f ls : List Int} {vs ws : List Bool} (h : orderM p' = .ok f) (hm : p.many = p'.many) (hn : p.lines = p'.lines)
    (hv : ∀ l : Int, p.many ≤ l → l < p.lines → vs.getD l.toNat false = ansF p vs l) (hw : ∀ l : Int, p'.many ≤ l → l < p'.lines → ws.getD l.toNat false = ansF p' ws l)
    (hg : ∀ l : Int, p'.many ≤ l → l < p'.lines → l ∉ ls → gateN p l = gateN p' l)
    (hi : ∀ l : Int, p'.many ≤ l → l < p'.lines → l ∉ ls → ∀ s ∈ (gateN p' l).srcs, (0 ≤ s ∧ s < p'.many → vs.getD s.toNat false = ws.getD s.toNat false) ∧ (p'.many ≤ s → s ∉ ls)) :
    ∀ l : Int, p'.many ≤ l → l < p'.lines → l ∉ ls → vs.getD l.toNat false = ws.getD l.toNat false := by
  obtain ⟨nd, hmem⟩ := order_mem h
  have key : ∀ k, ∀ l : Int, l ∈ f.take k → l ∉ ls → vs.getD l.toNat false = ws.getD l.toNat false := by
    intro k
    induction k with
    | zero => intro l hl; rw [List.take_zero] at hl; cases hl
    | succ k ih =>
      intro l hl hn2
      by_cases hlt : k < f.length
      · have hfk : f[k]? = some f[k] := List.getElem?_eq_getElem hlt
        have e : f.take (k + 1) = f.take k ++ [f[k]] := by rw [List.take_add_one, hfk]; rfl
        rw [e] at hl
        rcases List.mem_append.mp hl with q | q
        · exact ih l q hn2
        · have q := List.mem_singleton.mp q
          subst q
          obtain ⟨c0, c1⟩ := (hmem f[k]).mp (List.getElem_mem hlt)
          rw [hv _ (by omega) (by omega), hw _ c0 c1]
          unfold ansF
          rw [hg _ c0 c1 hn2]
          unfold gateV bitsOf
          refine congrArg _ (List.map_congr_left fun s hs => ?_)
          obtain ⟨s0, s1, hd⟩ := order_srcs h hfk s hs
          obtain ⟨i1, i2⟩ := hi _ c0 c1 hn2 s hs
          by_cases c : s < p'.many
          · exact i1 ⟨s0, c⟩
          · rcases hd with q | q
            · exact absurd q c
            · exact ih s q (i2 (by omega))
      · rw [List.take_of_length_le (by omega)] at hl
        have := ih l (by rw [List.take_of_length_le (by omega)]; exact hl) hn2
        exact this
  intro l l0 l1 hl
  refine key f.length l ?_ hl
  rw [List.take_length]
  exact (hmem l).mpr ⟨l0, l1⟩
theorem gateN_swap {p : Plan} {l : Int} {g : Gate} (h0 : p.many ≤ l) (h1 : l < p.lines) {k : Int} (hk : p.many ≤ k) (hne : k ≠ l) : gateN p k = gateN (swapP p l g) k := by
  unfold gateN swapP
  simp only
  rw [List.getD_eq_getElem?_getD, List.getD_eq_getElem?_getD, List.getElem?_set]
  rw [if_neg (by omega)]
theorem seesS {p : Plan} {l x : Int} (h0 : p.many ≤ x) (h1 : x < p.lines) (h : l ∈ (gateN p x).srcs) : Sees p l x := by
  have := Sees.src (gateN_get h0 h1).1 h
  rwa [show p.many + ((x - p.many).toNat : Int) = x by omega] at this
theorem seesT {p : Plan} {l x y : Int} (h0 : p.many ≤ x) (h1 : x < p.lines) (hy : Sees p l y) (h : y ∈ (gateN p x).srcs) : Sees p l x := by
  have := Sees.step hy (gateN_get h0 h1).1 h
  rwa [show p.many + ((x - p.many).toNat : Int) = x by omega] at this
/-- an input put -/
theorem put_redo {m : Int} {n : Nat} {p : Plan} {ins : List Bool} (h : GoodP m n p ins) {l : Int} {b : Bool} (h0 : 0 ≤ l) (h1 : l < p.many) :
    redo p (linesPut p ins l b) (goneM p).1 ((valsOf p ins).set l.toNat b) = valsOf p (ins.set l.toNat b) ∧ GoodP m n p (ins.set l.toNat b) := by
  have g2 : GoodP m n p (ins.set l.toNat b) := ⟨h.many, h.num, h.val, h.free, by rw [List.length_set]; exact h.ins⟩
  have s1 := h.solves
  have s2 := g2.solves
  have hln : p.many ≤ p.lines := by unfold Plan.lines; omega
  have hin : ∀ k : Int, 0 ≤ k → k < p.many → k ≠ l → (valsOf p ins).getD k.toNat false = (valsOf p (ins.set l.toNat b)).getD k.toNat false := fun k k0 k1 hne => by
    rw [s1.ins k k0 k1, s2.ins k k0 k1, getD_set_ne (by omega)]
  refine ⟨redo_ok h.order (by rw [List.length_set]; have := s1.len; have := s2.len; omega) s2.len s2.gat fun k k0 k1 hk => ?_, g2⟩
  by_cases hkl : k = l
  · subst hkl
    rw [getD_set_eq (by have := s1.len; omega), s2.ins k h0 h1, getD_set_eq (by have := h.ins; omega)]
  · rw [getD_set_ne (by omega)]
    by_cases c : k < p.many
    · exact hin k k0 c hkl
    · have hk : k ∉ linesPut p ins l b := by rcases hk with q | q; exact absurd q c; exact q
      refine kept_vals (ls := linesPut p ins l b) h.order rfl rfl s1.gat s2.gat (fun _ _ _ _ => rfl) (fun x x0 x1 hx s hs => ⟨fun ⟨a0, a1⟩ => ?_, fun a0 ha => ?_⟩) k (by omega) k1 hk
      · by_cases hsl : s = l
        · subst hsl
          by_cases e : ins.getD s.toNat false = b
          · rw [s1.ins s a0 a1, s2.ins s a0 a1, getD_set_eq (by have := h.ins; omega)]
            exact e
          · exfalso
            refine hx ?_
            unfold linesPut
            rw [if_neg e, mem_seersM h.val.m0]
            exact seesS x0 x1 hs
        · exact hin s a0 a1 hsl
      · refine hx ?_
        unfold linesPut at ha ⊢
        by_cases e : ins.getD l.toNat false = b
        · rw [if_pos e] at ha; cases ha
        · rw [if_neg e, mem_seersM h.val.m0] at ha ⊢
          exact seesT x0 x1 ha hs
/-- a gate swapped -/
theorem swap_redo {m : Int} {n : Nat} {p : Plan} {ins : List Bool} (h : GoodP m n p ins) {l : Int} {g : Gate} (h0 : p.many ≤ l) (h1 : l < p.lines) (hg : errGate g p.lines = none) (hr : ringedB (swapP p l g) = false) :
    redo (swapP p l g) (linesSwap (swapP p l g) l) (goneM (swapP p l g)).1 (valsOf p ins) = valsOf (swapP p l g) ins ∧ GoodP m n (swapP p l g) ins := by
  have g2 : GoodP m n (swapP p l g) ins := ⟨h.many, by rw [← h.num]; unfold swapP; simp, swapP_valid h.val hg, hr, h.ins⟩
  have s1 := h.solves
  have s2 := g2.solves
  have hln := swapP_lines (p := p) (l := l) (g := g)
  have m0 : 0 ≤ (swapP p l g).many := h.val.m0
  have hmm : (swapP p l g).many = p.many := rfl
  have hin : ∀ k : Int, 0 ≤ k → k < p.many → (valsOf p ins).getD k.toNat false = (valsOf (swapP p l g) ins).getD k.toNat false := fun k k0 k1 => by
    rw [s1.ins k k0 k1, s2.ins k k0 k1]
  refine ⟨redo_ok g2.order (by have := s1.len; have := s2.len; omega) s2.len s2.gat fun k k0 k1 hk => ?_, g2⟩
  by_cases c : k < p.many
  · exact hin k k0 c
  · have hk : k ∉ linesSwap (swapP p l g) l := by rcases hk with q | q; exact absurd q c; exact q
    refine kept_vals (p := p) (ls := linesSwap (swapP p l g) l) g2.order rfl hln.symm s1.gat s2.gat (fun x x0 x1 hx => gateN_swap h0 h1 x0 fun e => hx (mem_linesSwap.mpr (.inl e))) (fun x x0 x1 hx s hs => ⟨fun ⟨a0, a1⟩ => hin s a0 a1, fun a0 ha => hx (mem_linesSwap.mpr (.inr ((mem_seersM m0).mpr ?_)))⟩) k (by omega) k1 hk
    rcases mem_linesSwap.mp ha with rfl | ha
    · exact seesS x0 x1 hs
    · exact seesT x0 x1 ((mem_seersM m0).mp ha) hs
theorem past_last {α : Type} {xs : List α} {t : α} (h : xs.getLast? = some t) : xs = xs.dropLast ++ [t] := by
  have hn : xs ≠ [] := by rintro rfl; cases h
  rw [List.getLast?_eq_some_getLast hn] at h
  cases h
  exact (List.dropLast_concat_getLast hn).symm
/-- a deed keeps the state right, and the beginning stays -/
def Stt.orig (s : Stt) : Plan × List Bool := match s.past with
  | [] => (s.p, s.ins)
  | t :: _ => (t.p, t.ins)
theorem orig_snoc {p q : Plan} {i j : List Bool} {l l' ls : List Int} {past : List Snap} : (Stt.mk q j l (past ++ [⟨p, i, ls⟩])).orig = (Stt.mk p i l' past).orig := by
  cases past <;> rfl
theorem do_ok {m : Int} {n : Nat} {s s' : Stt} (h : s.Ok m n) {d : Deed} (e : doR s d = .ok s') : s'.Ok m n ∧ s'.orig = s.orig ∧ s'.past.length ≤ s.past.length + 1 := by
  cases d with
  | put l b =>
    rw [doR_put] at e
    split at e
    · rename_i c
      cases e
      obtain ⟨_, g2⟩ := put_redo h.now (b := b) c.1 c.2
      refine ⟨⟨g2, fun t ht => ?_⟩, orig_snoc, by simp⟩
      rcases List.mem_append.mp ht with q | q
      · exact h.past t q
      · rw [List.mem_singleton.mp q]; exact h.now
    · cases e
  | swap l g =>
    rw [doR_swap] at e
    split at e
    · rename_i c
      split at e
      · cases e
      · rename_i he
        split at e
        · cases e
        · rename_i hr
          cases e
          obtain ⟨_, g2⟩ := swap_redo h.now c.1 c.2 he (by simpa using hr)
          refine ⟨⟨g2, fun t ht => ?_⟩, orig_snoc, by simp⟩
          rcases List.mem_append.mp ht with q | q
          · exact h.past t q
          · rw [List.mem_singleton.mp q]; exact h.now
    · cases e
  | back =>
    rw [doR_back] at e
    split at e
    · cases e
    · rename_i t ht
      cases e
      have hm := List.mem_of_getLast? ht
      refine ⟨⟨h.past t hm, fun x hx => h.past x (List.dropLast_subset _ hx)⟩, ?_, by simp; omega⟩
      obtain ⟨r, hr⟩ : ∃ r, s.past = r ++ [t] := ⟨s.past.dropLast, past_last ht⟩
      rw [hr, List.dropLast_concat]
      have : s.orig = (Stt.mk s.p s.ins s.last (r ++ [t])).orig := by unfold Stt.orig; rw [hr]
      rw [this]
      exact (orig_snoc (l' := t.lines)).symm

/-! ### a board and a law's world on the heap; what may change is told by ms -/
def eraL (H : Hp) (ms : List Addr) : Hp := fun a => if a ∈ ms then none else H a
section
variable {B G H H' : Hp} {ms ns xs : List Addr} {a : Addr} {o : HO}
theorem era_at (h : a ∉ ms) : eraL H ms a = H a := if_neg h
theorem era_no (h : a ∈ ms) : eraL H ms a = none := if_pos h
theorem era_some (h : eraL H ms a = some o) : a ∉ ms ∧ H a = some o := by
  by_cases c : a ∈ ms
  · rw [era_no c] at h; cases h
  · rw [era_at c] at h; exact ⟨c, h⟩
theorem era_ex : Ex (eraL H ms) H := fun _ _ h => (era_some h).2
theorem era_mono (e : Ex H H') : Ex (eraL H ms) (eraL H' ms) := fun a o h => by
  obtain ⟨h1, h2⟩ := era_some h
  rw [era_at h1]; exact e a o h2
theorem era_step (h : ∀ a ∈ xs, a ∈ ms) (e : Ex (eraL H xs) H') : Ex (eraL H ms) (eraL H' ms) := fun a o q => by
  obtain ⟨h1, h2⟩ := era_some q
  rw [era_at h1]
  exact e a o (by rw [era_at fun z => h1 (h a z)]; exact h2)
theorem era_into (e : Ex G H) (h : ∀ a ∈ ms, G a = none) : Ex G (eraL H ms) := fun a o q => by
  rw [era_at fun z => by rw [h a z] at q; cases q]; exact e a o q
theorem era_grow (e : Ex H H') (h : ∀ a ∈ ns, a ∈ ms ∨ H a = none) : Ex (eraL H ms) (eraL H' ns) := fun a o q => by
  obtain ⟨h1, h2⟩ := era_some q
  rw [era_at fun z => by
    rcases h a z with z | z
    · exact h1 z
    · rw [z] at h2; cases h2]
  exact e a o h2
theorem era_less (h : ∀ a ∈ ns, a ∈ ms) : Ex (eraL H ms) (eraL H ns) := era_grow (Ex.refl H) fun a z => .inl (h a z)
theorem ex_era (e : Ex B H) (h : ∀ a ∈ xs, B a = none) (s : Ex (eraL H xs) H') : Ex B H' := (era_into e h).trans s
theorem era_pre (e : Ex G H) (s : Ex (eraL H xs) H') : Ex (eraL G xs) H' := (era_mono e).trans s
/-- two steps -/
theorem era_two {H2 : Hp} (s : Ex (eraL H xs) H') (t : Ex (eraL H' xs) H2) : Ex (eraL H xs) H2 := fun a o q => by
  obtain ⟨h1, h2⟩ := era_some q
  exact t a o (by rw [era_at h1]; exact s a o q)
end
/-- what may change: lists and objects -/
def Chg (ms : List Addr) (H : Hp) : Prop := ∀ a ∈ ms, (∃ ys, H a = some (.lst ys)) ∨ ∃ C dx fs, H a = some (.ins C dx fs)
section
variable {K : PySem.W.Frag} {H H' : Hp} {ms ns : List Addr} {a : Addr} {xs : List V} {v : V} {g : Gate}
theorem Chg.mono (c : Chg ms H) (e : Ex H H') : Chg ms H' := fun a h => by
  rcases c a h with ⟨ys, q⟩ | ⟨C, dx, fs, q⟩
  · exact .inl ⟨ys, e _ _ q⟩
  · exact .inr ⟨C, dx, fs, e _ _ q⟩
theorem Chg.has (c : Chg ms H) (h : a ∈ ms) (n : H a = none) : False := by
  rcases c a h with ⟨ys, q⟩ | ⟨C, dx, fs, q⟩ <;> rw [n] at q <;> cases q
theorem Chg.out (c : Chg ms H) (n : H a = none) : a ∉ ms := fun h => c.has h n
theorem Chg.cons {b : Addr} {ys : List V} (c : Chg ms H) (h : H b = some (.lst ys)) : Chg (b :: ms) H := fun a q => by
  rcases List.mem_cons.mp q with rfl | q
  · exact .inl ⟨ys, h⟩
  · exact c a q
theorem sqT_era (c : Chg ms H) (h : SqT K H a xs) : SqT K (eraL H ms) a xs := by
  rcases h with h | h
  · refine .inl ?_
    rcases h with h | ⟨ob, h⟩
    · refine .inl ?_
      rw [era_at fun z => ?_]
      · exact h
      · rcases c a z with ⟨ys, q⟩ | ⟨C, dx, fs, q⟩ <;> rw [h] at q <;> cases q
    · refine .inr ⟨ob, ?_⟩
      rw [era_at fun z => ?_]
      · exact h
      · rcases c a z with ⟨ys, q⟩ | ⟨C, dx, fs, q⟩ <;> rw [h] at q <;> cases q
  · exact .inr h
theorem GateAt.era (c : Chg ms H) (h : GateAt K H v g) : GateAt K (eraL H ms) v g := by
  obtain ⟨a, s, rfl, h1, h2⟩ := h
  exact ⟨a, s, rfl, sqT_era c h1, sqT_era c h2⟩
end
def SnapB (K : PySem.W.Frag) (N : Hp) (v : V) (t : Snap) : Prop := ∃ a g h l, v = .ref a ∧ SqT K N a [.ref g, .ref h, .ref l] ∧ GatesAt K N g t.p.gates ∧ SqL K N h ((valsOf t.p t.ins).map V.bl) ∧ SqL K N l (t.lines.map V.int)
def SnapW (K : PySem.W.Frag) (N : Hp) (v : V) (t : Snap) : Prop := ∃ a vp i l, v = .ref a ∧ SqT K N a [vp, .ref i, .ref l] ∧ PlanAt K N vp t.p ∧ SqL K N i (t.ins.map V.bl) ∧ SqL K N l (t.lines.map V.int)
theorem SnapB.mono {K : PySem.W.Frag} {N N' : Hp} (e : Ex N N') {v : V} {t : Snap} (h : SnapB K N v t) : SnapB K N' v t := by
  obtain ⟨a, g, h', l, rfl, h1, h2, h3, h4⟩ := h
  exact ⟨a, g, h', l, rfl, ex_t e h1, h2.mono e, ex_l e h3, ex_l e h4⟩
theorem SnapW.mono {K : PySem.W.Frag} {N N' : Hp} (e : Ex N N') {v : V} {t : Snap} (h : SnapW K N v t) : SnapW K N' v t := by
  obtain ⟨a, vp, i, l, rfl, h1, h2, h3, h4⟩ := h
  exact ⟨a, vp, i, l, rfl, ex_t e h1, h2.mono e, ex_l e h3, ex_l e h4⟩
structure BoardSt (K : PySem.W.Frag) (C : Addr) (ms : List Addr) (H : Hp) (x ps : Addr) (s : Stt) : Prop where
  at_ : ∃ dx h g l pv, H x = some (.ins C dx (bf h g ps l s.p.many)) ∧ H ps = some (.lst pv) ∧ SqL K (eraL H ms) h ((valsOf s.p s.ins).map V.bl) ∧ GatesAt K (eraL H ms) g s.p.gates ∧ SqL K (eraL H ms) l (s.last.map V.int) ∧ Rows (SnapB K (eraL H ms)) pv s.past
  ne : ps ≠ x
  mx : x ∈ ms
  mp : ps ∈ ms
  chg : Chg ms H
structure WorldSt (K : PySem.W.Frag) (ms : List Addr) (H : Hp) (w : Addr) (s : Stt) : Prop where
  at_ : ∃ vp i d l dv, H w = some (.lst [vp, .ref i, .ref d, .ref l]) ∧ PlanAt K (eraL H ms) vp s.p ∧ SqL K (eraL H ms) i (s.ins.map V.bl) ∧ eraL H ms d = some (.lst dv) ∧ SqL K (eraL H ms) l (s.last.map V.int) ∧ Rows (SnapW K (eraL H ms)) dv s.past
  mw : w ∈ ms
  chg : Chg ms H
section
variable {K : PySem.W.Frag} {C : Addr} {ms ns xs : List Addr} {H H' : Hp} {x ps w : Addr} {s : Stt}
theorem BoardSt.to (h : BoardSt K C ms H x ps s) (e : Ex (eraL H ms) (eraL H' ns)) (hx : ∀ o, H x = some o → H' x = some o) (hp : ∀ o, H ps = some o → H' ps = some o) (mx : x ∈ ns) (mp : ps ∈ ns) (c : Chg ns H') : BoardSt K C ns H' x ps s := by
  obtain ⟨dx, h', g, l, pv, h1, h2, h3, h4, h5, h6⟩ := h.at_
  exact ⟨⟨dx, h', g, l, pv, hx _ h1, hp _ h2, ex_l e h3, h4.mono e, ex_l e h5, rows_imp h6 fun _ _ r => r.mono e⟩, h.ne, mx, mp, c⟩
theorem WorldSt.to (h : WorldSt K ms H w s) (e : Ex (eraL H ms) (eraL H' ns)) (hw : ∀ o, H w = some o → H' w = some o) (mw : w ∈ ns) (c : Chg ns H') : WorldSt K ns H' w s := by
  obtain ⟨vp, i, d, l, dv, h1, h2, h3, h4, h5, h6⟩ := h.at_
  exact ⟨⟨vp, i, d, l, dv, hw _ h1, h2.mono e, ex_l e h3, e _ _ h4, ex_l e h5, rows_imp h6 fun _ _ r => r.mono e⟩, mw, c⟩
theorem BoardSt.mono (h : BoardSt K C ms H x ps s) (e : Ex H H') : BoardSt K C ms H' x ps s := h.to (era_mono e) (fun o => e x o) (fun o => e ps o) h.mx h.mp (h.chg.mono e)
theorem WorldSt.mono (h : WorldSt K ms H w s) (e : Ex H H') : WorldSt K ms H' w s := h.to (era_mono e) (fun o => e w o) h.mw (h.chg.mono e)
theorem BoardSt.step (h : BoardSt K C ms H x ps s) (e : Ex (eraL H xs) H') (hs : ∀ a ∈ xs, a ∈ ms) (hx : x ∉ xs) (hp : ps ∉ xs) (c : Chg ms H') : BoardSt K C ms H' x ps s :=
  h.to (era_step hs e) (fun o q => e x o (by rw [era_at hx]; exact q)) (fun o q => e ps o (by rw [era_at hp]; exact q)) h.mx h.mp c
theorem WorldSt.step (h : WorldSt K ms H w s) (e : Ex (eraL H xs) H') (hs : ∀ a ∈ xs, a ∈ ms) (hw : w ∉ xs) (c : Chg ms H') : WorldSt K ms H' w s :=
  h.to (era_step hs e) (fun o q => e w o (by rw [era_at hw]; exact q)) h.mw c
theorem BoardSt.grow (h : BoardSt K C ms H x ps s) (e : Ex H H') (hn : ∀ a ∈ ns, a ∈ ms ∨ H a = none) (hm : ∀ a ∈ ms, a ∈ ns) (c : Chg ns H') : BoardSt K C ns H' x ps s := h.to (era_grow e hn) (fun o => e x o) (fun o => e ps o) (hm _ h.mx) (hm _ h.mp) c
theorem WorldSt.grow (h : WorldSt K ms H w s) (e : Ex H H') (hn : ∀ a ∈ ns, a ∈ ms ∨ H a = none) (hm : ∀ a ∈ ms, a ∈ ns) (c : Chg ns H') : WorldSt K ns H' w s := h.to (era_grow e hn) (fun o => e w o) (hm _ h.mw) c
/-- a list of its own may change -/
theorem BoardSt.own {q : Addr} {o : HO} (h : BoardSt K C (q :: ms) H x ps s) (hx : x ∈ ms) (hp : ps ∈ ms) (hq : q ∉ ms) : BoardSt K C ms (upd H q o) x ps s :=
  h.to (fun a u z => by
    obtain ⟨z1, z2⟩ := era_some z
    rw [List.mem_cons, not_or] at z1
    rw [era_at z1.2, upd_ne z1.1]; exact z2) (fun u z => by rw [upd_ne (show x ≠ q from fun e => hq (e ▸ hx))]; exact z) (fun u z => by rw [upd_ne (show ps ≠ q from fun e => hq (e ▸ hp))]; exact z) hx hp (fun a ha => by
    rw [upd_ne (show a ≠ q from fun e => hq (e ▸ ha))]; exact h.chg a (List.mem_cons_of_mem _ ha))
theorem BoardSt.less (h : BoardSt K C (x' :: ms) H x ps s) (hx : x ∈ ms) (hp : ps ∈ ms) : BoardSt K C ms H x ps s :=
  h.to (era_less fun a z => List.mem_cons_of_mem _ z) (fun o q => q) (fun o q => q) hx hp fun a ha => h.chg a (List.mem_cons_of_mem _ ha)
end
/-- a deed -/
def DeedAt (K : PySem.W.Frag) (N : Hp) (v : V) : Deed → Prop
  | .put l b => ∃ a, v = .ref a ∧ SqT K N a [.str "put", .int l, .bl b]
  | .swap l g => ∃ a gv, v = .ref a ∧ SqT K N a [.str "swap", .int l, gv] ∧ GateAt K N gv g
  | .back => ∃ a, v = .ref a ∧ SqT K N a [.str "back", .int 0, .non]
theorem DeedAt.mono {K : PySem.W.Frag} {N N' : Hp} (e : Ex N N') {v : V} : ∀ {d : Deed}, DeedAt K N v d → DeedAt K N' v d
  | .put l b, ⟨a, h, h1⟩ => ⟨a, h, ex_t e h1⟩
  | .swap l g, ⟨a, gv, h, h1, h2⟩ => ⟨a, gv, h, ex_t e h1, h2.mono e⟩
  | .back, ⟨a, h, h1⟩ => ⟨a, h, ex_t e h1⟩
theorem DeedAt.era {K : PySem.W.Frag} {H : Hp} {ms : List Addr} (c : Chg ms H) {v : V} : ∀ {d : Deed}, DeedAt K H v d → DeedAt K (eraL H ms) v d
  | .put l b, ⟨a, h, h1⟩ => ⟨a, h, sqT_era c h1⟩
  | .swap l g, ⟨a, gv, h, h1, h2⟩ => ⟨a, gv, h, sqT_era c h1, h2.era c⟩
  | .back, ⟨a, h, h1⟩ => ⟨a, h, sqT_era c h1⟩
/-! what evaluates and changes things on the way -/
def EvM (te : TE) (σ : L2.St) (G : Hp) (S : V → Hp → Prop) : Prop := ∀ H, Ex G H → ∀ Q : VK, (∀ v H', S v H' → Q v H') → te σ H Q
section
variable {K : PySem.W.Frag} {σ : L2.St} {G H : Hp} {ta tb te : TE} {t : TT} {tA : TA} {v : V} {vs xs : List V} {D : Ends} {tu tz : TS} {S S2 : V → Hp → Prop} {i : Nat} {C x dx : Addr} {fs : List (Str × V)} {m : Str} {sp : Sp} {E : L2.St → XK} {P : List V → Hp → Prop} {r : R2}
theorem em_ev (h : Ev te σ G v) : EvM te σ G fun w H' => w = v ∧ Ex G H' := fun H e Q q => h H e Q fun H1 e1 => q v H1 ⟨rfl, e.trans e1⟩
theorem em_imp (h : EvM te σ G S) (k : ∀ v H', S v H' → S2 v H') : EvM te σ G S2 := fun H e Q q => h H e Q fun v H' s => q v H' (k v H' s)
theorem go_retM (h : EvM te σ G S) (k : ∀ v H', S v H' → D.rt v H') : Go (tSeq (tRet te) tz) D σ G := fun H e => h H e _ fun v H' s => k v H' s
theorem go_dropM (h : EvM te σ G S) (k : ∀ v H', S v H' → Go tz D σ H') : Go (tSeq (tDrop te) tz) D σ G := fun H e => h H e _ fun v H' s => k v H' s H' (Ex.refl H')
theorem go_asgM (h : EvM te σ G S) (k : ∀ v H', S v H' → Go tz D (σ.set i (some v)) H') : Go (tSeq (tAsg te (gName i)) tz) D σ G := fun H e => h H e _ fun v H' s => k v H' s H' (Ex.refl H')
theorem em_met (ho : Ev ta σ G (.ref x)) (hx : G x = some (.ins C dx fs)) (hf : fs.lookup m = none) (ha : EvA tA σ G vs) (hs : ∀ H, Ex G H → ∀ Q : VK, (∀ v H', S v H' → Q v H') → sp (.ref x :: vs) H Q (E σ)) : EvM (tMethX C m sp E ta tA) σ G S := fun H e Q q =>
  ho H e _ fun H1 e1 => ⟨x, dx, fs, rfl, (e.trans e1) _ _ hx, hf, ha H1 (e.trans e1) _ fun H2 e2 => hs H2 ((e.trans e1).trans e2) Q q⟩
theorem em_metP (ho : Ev ta σ G (.ref x)) (hx : G x = some (.ins C dx fs)) (hf : fs.lookup m = none) (ha : EvAP tA σ G P) (hs : ∀ vs G', Ex G G' → P vs G' → ∀ H, Ex G' H → ∀ Q : VK, (∀ v H', S v H' → Q v H') → sp (.ref x :: vs) H Q (E σ)) : EvM (tMethX C m sp E ta tA) σ G S := fun H e Q q =>
  ho H e _ fun H1 e1 => ⟨x, dx, fs, rfl, (e.trans e1) _ _ hx, hf, ha H1 (e.trans e1) _ fun vs G' H2 g1 g2 e2 p => hs vs G' g1 p H2 g2 Q q⟩
theorem ef_met (ho : Ev ta σ G (.ref x)) (hx : G x = some (.ins C dx fs)) (hf : fs.lookup m = none) (ha : EvA tA σ G vs) (hs : ∀ H, Ex G H → ∀ Q : VK, sp (.ref x :: vs) H Q (E σ)) : EvF (tMethX C m sp E ta tA) σ G := fun H e Q =>
  ho H e _ fun H1 e1 => ⟨x, dx, fs, rfl, (e.trans e1) _ _ hx, hf, ha H1 (e.trans e1) _ fun H2 e2 => hs H2 ((e.trans e1).trans e2) Q⟩
theorem ep_met {R : V → Hp → Prop} (ho : Ev ta σ G (.ref x)) (hx : G x = some (.ins C dx fs)) (hf : fs.lookup m = none) (ha : EvA tA σ G vs) (hs : SpG sp (.ref x :: vs) G R) : EvP (tMethX C m sp E ta tA) σ G R := fun H e Q q =>
  ho H e _ fun H1 e1 => ⟨x, dx, fs, rfl, (e.trans e1) _ _ hx, hf, ha H1 (e.trans e1) _ fun H2 e2 => hs H2 ((e.trans e1).trans e2) Q (E σ) fun v G' H' g1 g2 e3 p => q v G' H' g1 g2 ((e1.trans e2).trans e3) p⟩
theorem el_met (ho : Ev ta σ G (.ref x)) (hx : G x = some (.ins C dx fs)) (hf : fs.lookup m = none) (ha : EvA tA σ G vs) (hs : SpL sp (.ref x :: vs) G xs) : EvL (tMethX C m sp E ta tA) σ G xs := fun H e Q q =>
  ho H e _ fun H1 e1 => ⟨x, dx, fs, rfl, (e.trans e1) _ _ hx, hf, ha H1 (e.trans e1) _ fun H2 e2 => hs H2 ((e.trans e1).trans e2) Q (fun p H3 hp e3 h3 => q p H3 (fresh_back (e1.trans e2) hp) ((e1.trans e2).trans e3) h3) (E σ)⟩
theorem em_call (ha : EvA tA σ G vs) (hs : ∀ H, Ex G H → ∀ Q : VK, (∀ v H', S v H' → Q v H') → sp vs H Q (E σ)) : EvM (tCallS sp E tA) σ G S := fun H e Q q =>
  ha H e _ fun H1 e1 => hs H1 (e.trans e1) Q q
theorem em_callP (ha : EvAP tA σ G P) (hs : ∀ vs G', Ex G G' → P vs G' → ∀ H, Ex G' H → ∀ Q : VK, (∀ v H', S v H' → Q v H') → sp vs H Q (E σ)) : EvM (tCallS sp E tA) σ G S := fun H e Q q =>
  ha H e _ fun vs G' H1 g1 g2 e1 p => hs vs G' g1 p H1 g2 Q q
theorem em_op (h : EvM ta σ G S) (k : ∀ y H1, S y H1 → EvM tb σ H1 fun z H2 => ∀ Q : VK, (∀ w H3, S2 w H3 → Q w H3) → r y z H2 Q) : EvM (tOp r ta tb) σ G S2 := fun H e Q q =>
  h H e _ fun y H1 s => k y H1 s H1 (Ex.refl H1) _ fun z H2 f => f Q q
theorem go_whenM (h : EvM te σ G S) (hb : ∀ v H', S v H' → ∃ b, v = .bl b) (k1 : ∀ H', S (.bl true) H' → Go tu { D with nx := tz D } σ H') (k2 : ∀ H', S (.bl false) H' → Go tz D σ H') : Go (tSeq (tIfS (tB te) tu tNext) tz) D σ G := fun H e =>
  h H e _ fun v H' s => by
    obtain ⟨b, rfl⟩ := hb v H' s
    refine ⟨b, rfl, ?_⟩
    cases b with
    | true => exact k1 H' s H' (Ex.refl H')
    | false => exact k2 H' s H' (Ex.refl H')
end
def NewPlan (K : PySem.W.Frag) (H : Hp) (v : V) (H' : Hp) (p : Plan) : Prop := ∃ t q ws, v = .ref t ∧ H' t = some (.tup [.int p.many, .ref q]) ∧ H q = none ∧ H' q = some (.lst ws) ∧ Rows (GateAt K H) ws p.gates
theorem NewPlan.at {K : PySem.W.Frag} {H H' : Hp} {v : V} {p : Plan} (h : NewPlan K H v H' p) (e : Ex H H') : PlanAt K H' v p := by
  obtain ⟨t, q, ws, rfl, h1, _, h2, h3⟩ := h
  exact ⟨t, q, rfl, st_of h1, ws, sq_of h2, rows_imp h3 fun _ _ r => r.mono e⟩
def unlikeM (xs ys : List Bool) : List Int := ((List.range xs.length).filter fun i : Nat => !(decide (xs.getD i false = ys.getD i false))).map fun i : Nat => (i : Int)
section
variable {h g ps l : Addr} {m : Int}
theorem bf_drawn : (bf h g ps l m).lookup ("drawn" : Str) = none := bf_no (by decide +kernel) (by decide +kernel) (by decide +kernel) (by decide +kernel) (by decide +kernel)
theorem bf_shown : (bf h g ps l m).lookup ("shown" : Str) = none := bf_no (by decide +kernel) (by decide +kernel) (by decide +kernel) (by decide +kernel) (by decide +kernel)
theorem bf_touched : (bf h g ps l m).lookup ("touched" : Str) = none := bf_no (by decide +kernel) (by decide +kernel) (by decide +kernel) (by decide +kernel) (by decide +kernel)
theorem bf_done : (bf h g ps l m).lookup ("done" : Str) = none := bf_no (by decide +kernel) (by decide +kernel) (by decide +kernel) (by decide +kernel) (by decide +kernel)
theorem bf_put : (bf h g ps l m).lookup ("put" : Str) = none := bf_no (by decide +kernel) (by decide +kernel) (by decide +kernel) (by decide +kernel) (by decide +kernel)
theorem bf_swap : (bf h g ps l m).lookup ("swap" : Str) = none := bf_no (by decide +kernel) (by decide +kernel) (by decide +kernel) (by decide +kernel) (by decide +kernel)
theorem bf_back : (bf h g ps l m).lookup ("back" : Str) = none := bf_no (by decide +kernel) (by decide +kernel) (by decide +kernel) (by decide +kernel) (by decide +kernel)
end
/-- what a deed on a board brings about -/
def BOut (A : Ads) (K : PySem.W.Frag) (ms : List Addr) (H : Hp) (x ps : Addr) (Q : VK) (E : XK) (s : Stt) : Except Err Stt → Prop
  | .ok s' => ∀ q H', H q = none → Ex (eraL H [x, ps]) H' → BoardSt K A.Board (q :: ms) H' x ps s' → H' q = some (.lst ((unlikeM (valsOf s.p s.ins) (valsOf s'.p s'.ins)).map V.int)) → Q (.ref q) H'
  | .error e => ∀ H', Ex H H' → E (.ref (A.of e)) none H'
theorem Chg.step {ms : List Addr} {H H' : Hp} {x ps : Addr} (c : Chg ms H) (e : Ex (eraL H [x, ps]) H') (hx : ∃ C dx fs, H' x = some (.ins C dx fs)) (hp : ∃ ys, H' ps = some (.lst ys)) : Chg ms H' := fun a h => by
  by_cases c1 : a = x
  · subst c1; exact .inr hx
  · by_cases c2 : a = ps
    · subst c2; exact .inl hp
    · have hn : a ∉ [x, ps] := by simp [c1, c2]
      rcases c a h with ⟨ys, q⟩ | ⟨C, dx, fs, q⟩
      · exact .inl ⟨ys, e _ _ (by rw [era_at hn]; exact q)⟩
      · exact .inr ⟨C, dx, fs, e _ _ (by rw [era_at hn]; exact q)⟩
/-- what stood apart stands apart of more -/
theorem era_apart {ms : List Addr} {H H' : Hp} {q : Addr} (e : Ex (eraL H ms) H') (hq : H q = none) : Ex (eraL H ms) (eraL H' (q :: ms)) := fun a o h => by
  obtain ⟨h1, h2⟩ := era_some h
  rw [era_at]
  · exact e a o h
  · rw [List.mem_cons, not_or]
    exact ⟨fun z => (by rw [z, hq] at h2; cases h2), h1⟩
theorem vals_len {m : Int} {n : Nat} {p : Plan} {ins : List Bool} (h : GoodP m n p ins) : ((valsOf p ins).length : Int) = m + n := by
  have := h.solves.len
  unfold Plan.lines at this
  have := h.many; have := h.num; omega
theorem GoodP.small {m : Int} {n : Nat} {p : Plan} {ins : List Bool} (h : GoodP m n p ins) : (valsOf p ins).length ≤ 260 := by
  have := vals_len h
  have := h.val.m60; have := h.val.n200; have := h.many; have := h.num; omega
/-- what a changing call on a board gives the caller -/
def DoneV (A : Ads) (K : PySem.W.Frag) (ms : List Addr) (H : Hp) (x ps : Addr) (s s' : Stt) : V → Hp → Prop := fun v H' => ∃ q, v = .ref q ∧ H q = none ∧ Ex (eraL H [x, ps]) H' ∧ BoardSt K A.Board (q :: ms) H' x ps s' ∧ H' q = some (.lst ((unlikeM (valsOf s.p s.ins) (valsOf s'.p s'.ins)).map V.int))
theorem DoneV.mono {A : Ads} {K : PySem.W.Frag} {ms : List Addr} {G H H' : Hp} {x ps : Addr} {s s' : Stt} {v : V} (e : Ex G H) (h : DoneV A K ms H x ps s s' v H') : DoneV A K ms G x ps s s' v H' := by
  obtain ⟨q, rfl, h1, h2, h3, h4⟩ := h
  exact ⟨q, rfl, e.none h1, era_pre e h2, h3, h4⟩
theorem bout_ok {A : Ads} {K : PySem.W.Frag} {ms : List Addr} {H : Hp} {x ps : Addr} {Q : VK} {E : XK} {s s' : Stt} {r : Except Err Stt} (hr : r = .ok s') (h : ∀ v H', DoneV A K ms H x ps s s' v H' → Q v H') : BOut A K ms H x ps Q E s r := by
  subst hr
  exact fun q H' h1 h2 h3 h4 => h _ _ ⟨q, rfl, h1, h2, h3, h4⟩
theorem bout_err {A : Ads} {K : PySem.W.Frag} {ms : List Addr} {H : Hp} {x ps : Addr} {Q : VK} {E : XK} {s : Stt} {e : Err} {r : Except Err Stt} (hr : r = .error e) (h : ∀ H', Ex H H' → E (.ref (A.of e)) none H') : BOut A K ms H x ps Q E s r := by
  subst hr
  exact h
theorem BOut.ok {A : Ads} {K : PySem.W.Frag} {ms : List Addr} {H : Hp} {x ps : Addr} {Q : VK} {E : XK} {s s' : Stt} {r : Except Err Stt} (o : BOut A K ms H x ps Q E s r) (hr : r = .ok s') {v : V} {H' : Hp} (h : DoneV A K ms H x ps s s' v H') : Q v H' := by
  subst hr
  obtain ⟨q, rfl, h1, h2, h3, h4⟩ := h
  exact o q H' h1 h2 h3 h4
theorem BOut.err {A : Ads} {K : PySem.W.Frag} {ms : List Addr} {H : Hp} {x ps : Addr} {Q : VK} {E : XK} {s : Stt} {e : Err} {r : Except Err Stt} (o : BOut A K ms H x ps Q E s r) (hr : r = .error e) {H' : Hp} (h : Ex H H') : E (.ref (A.of e)) none H' := by
  subst hr
  exact o H' h
/-- a new list stands apart -/
theorem sq_apart {K : PySem.W.Frag} {ms : List Addr} {H H' : Hp} {p : Addr} {xs : List V} (c : Chg ms H) (hp : H p = none) (h : H' p = some (.lst xs)) : SqL K (eraL H' ms) p xs := sq_of (by rw [era_at (c.out hp)]; exact h)
theorem ev_of_ep {te : TE} {σ : L2.St} {G : Hp} {v : V} (h : EvP te σ G fun x _ => x = v) : Ev te σ G v := fun H e Q q => h H e Q fun x G' H' g1 g2 e1 p => by subst p; exact q H' e1
theorem el_sortedI {K : PySem.W.Frag} {σ : L2.St} {G : Hp} {ta : TE} {ns zs : List Int} (h : EvL ta σ G (ns.map V.int)) (hz : ∀ ns' : List Int, ns'.Perm ns → ns'.Pairwise (· ≤ ·) → ns' = zs) : EvL (tCB (rSortedI K) (tCons ta tNil)) σ G (zs.map V.int) := fun H e Q q =>
  h H e _ fun p H1 hp e1 h1 => ⟨p, ns, rfl, sq_of h1, fun ns' r hpm hpw hr => by rw [hz ns' hpm hpw]; exact q r _ (fresh_back e1 hr) (e1.trans (Ex.new hr)) upd_same⟩
theorem seersM_len {p : Plan} {l : Int} : ((seersM p l).length : Int) ≤ p.lines.toNat := by
  unfold seersM
  rw [List.length_map]
  have := List.length_filter_le (fun i : Nat => @decide (Sees p l (i : Int)) (Classical.propDecidable _)) (List.range p.lines.toNat)
  rw [List.length_range] at this
  omega
theorem BOut.mono {A : Ads} {K : PySem.W.Frag} {ms : List Addr} {H H' : Hp} {x ps : Addr} {Q : VK} {E : XK} {s : Stt} {r : Except Err Stt} (e : Ex H H') (o : BOut A K ms H x ps Q E s r) : BOut A K ms H' x ps Q E s r := by
  cases hr : r with
  | ok s' => exact bout_ok rfl fun v H2 hd => o.ok hr (hd.mono e)
  | error z => exact bout_err rfl fun H2 e2 => o.err hr (e.trans e2)
theorem go_retB {σ : L2.St} {G : Hp} {ta : TE} {tA : TA} {vs : List V} {D : Ends} {tz : TS} {C x dx : Addr} {fs : List (Str × V)} {m : Str} {sp : Sp} {E : L2.St → XK} (ho : Ev ta σ G (.ref x)) (hx : G x = some (.ins C dx fs)) (hf : fs.lookup m = none) (ha : EvA tA σ G vs) (hs : ∀ H, Ex G H → sp (.ref x :: vs) H D.rt (E σ)) : Go (tSeq (tRet (tMethX C m sp E ta tA)) tz) D σ G := fun H e =>
  ho H e _ fun H1 e1 => ⟨x, dx, fs, rfl, (e.trans e1) _ _ hx, hf, ha H1 (e.trans e1) _ fun H2 e2 => hs H2 ((e.trans e1).trans e2)⟩
/-- the state behind a deed, and its word -/
noncomputable def after (s : Stt) (d : Deed) : Stt := match doR s d with
  | .ok s' => s'
  | .error _ => s
noncomputable def doWord (s : Stt) (d : Deed) : Str := match doR s d with
  | .ok _ => ""
  | .error e => errWord e
theorem after_ok {s s' : Stt} {d : Deed} (h : doR s d = .ok s') : after s d = s' ∧ doWord s d = "" := by
  unfold after doWord; rw [h]; exact ⟨rfl, rfl⟩
theorem after_err {s : Stt} {d : Deed} {e : Err} (h : doR s d = .error e) : after s d = s ∧ doWord s d = errWord e := by
  unfold after doWord; rw [h]; exact ⟨rfl, rfl⟩
theorem after_Ok {m : Int} {n : Nat} {s : Stt} (h : s.Ok m n) (d : Deed) : (after s d).Ok m n ∧ (after s d).orig = s.orig ∧ (after s d).past.length ≤ s.past.length + 1 := by
  cases e : doR s d with
  | ok s' => rw [(after_ok e).1]; exact do_ok h e
  | error x => rw [(after_err e).1]; exact ⟨h, rfl, by omega⟩
theorem unlike_self (xs : List Bool) : unlikeM xs xs = [] := by
  unfold unlikeM
  have : (List.range xs.length).filter (fun i : Nat => !(decide (xs.getD i false = xs.getD i false))) = [] := List.filter_eq_nil_iff.mpr fun i _ => by simp
  rw [this]; rfl
/-- what the law's word of a deed gives: the word, and a list of its own -/
def WordV (A : Ads) (K : PySem.W.Frag) (ms : List Addr) (H : Hp) (x ps : Addr) (s : Stt) (d : Deed) : V → Hp → Prop := fun v H' => ∃ t q, v = .ref t ∧ H' t = some (.tup [.str (doWord s d), .ref q]) ∧ H q = none ∧ Ex (eraL H [x, ps]) H' ∧ BoardSt K A.Board (q :: ms) H' x ps (after s d) ∧
  H' q = some (.lst ((unlikeM (valsOf s.p s.ins) (valsOf (after s d).p (after s d).ins)).map V.int))
theorem WordV.mono {A : Ads} {K : PySem.W.Frag} {ms : List Addr} {G H H' : Hp} {x ps : Addr} {s : Stt} {d : Deed} {v : V} (e : Ex G H) (h : WordV A K ms H x ps s d v H') : WordV A K ms G x ps s d v H' := by
  obtain ⟨t, q, rfl, h1, h2, h3, h4, h5⟩ := h
  exact ⟨t, q, rfl, h1, e.none h2, era_pre e h3, h4, h5⟩
theorem em_tupC {te : TE} {σ : L2.St} {G : Hp} {S : V → Hp → Prop} {c : V} (h : EvM te σ G S) : EvM (tTup (tCons (tC c) (tCons te tNil))) σ G fun v H' => ∃ r H1 t, S r H1 ∧ v = .ref t ∧ H1 t = none ∧ H' = upd H1 t (.tup [c, r]) := fun H e Q q =>
  h H e _ fun r H1 s => ⟨sz_of (by show 2 ≤ 100000; decide), fun a ha => q _ _ ⟨r, H1, a, s, rfl, ha, rfl⟩⟩
theorem ef_tupC {te : TE} {σ : L2.St} {G : Hp} {c : V} (h : EvF te σ G) : EvF (tTup (tCons (tC c) (tCons te tNil))) σ G := fun H e Q => h H e _

/-! ### gates in lists that are made on the way -/
def GG (K : PySem.W.Frag) (G : Hp) (v : V) : Prop := ∃ g, GateAt K G v g ∧ g.srcs.length ≤ 30
def AG (K : PySem.W.Frag) (n : Nat) (vs : List V) (G : Hp) : Prop := vs.length = n ∧ ∀ w ∈ vs, GG K G w
def LG (K : PySem.W.Frag) (n : Nat) (v : V) (G : Hp) : Prop := ∃ p ws, v = .ref p ∧ G p = some (.lst ws) ∧ AG K n ws G
section
variable {K : PySem.W.Frag} {σ : L2.St} {G : Hp} {ta tb tc te : TE} {tA : TA} {n m : Nat} {a : Addr} {ws : List V} {ss : List Int} {z : Str} {d i j k : Int} {R : V → Hp → Prop} {P : V → Hp → Prop}
theorem GG.mono {G' : Hp} {v : V} (e : Ex G G') (h : GG K G v) : GG K G' v := by
  obtain ⟨g, h1, h2⟩ := h
  exact ⟨g, h1.mono e, h2⟩
theorem AG.mono {G' : Hp} (e : Ex G G') (h : AG K n ws G) : AG K n ws G' := ⟨h.1, fun w hw => (h.2 w hw).mono e⟩
theorem eag_nil : EvAP tNil σ G (AG K 0) := (EvAP.of ea_nil).imp fun vs G' _ h => by
  obtain ⟨rfl, _⟩ := h
  exact ⟨rfl, fun w hw => (by cases hw)⟩
theorem eag_cons (h : EvP te σ G fun v G' => GG K G' v) (hr : ∀ G', Ex G G' → EvAP tA σ G' (AG K n)) : EvAP (tCons te tA) σ G (AG K (n + 1)) :=
  (eap_cons (R := fun v vs G' => AG K n vs G') h fun v G' e _ => hr G' e).imp fun vs G' _ hh => by
    obtain ⟨v, vs', G1, rfl, _, e1, hv, hA⟩ := hh
    refine ⟨by rw [List.length_cons, hA.1], fun w hw => ?_⟩
    rcases List.mem_cons.mp hw with rfl | hw
    · exact hv.mono e1
    · exact hA.2 w hw
theorem epg_lst (h : EvAP tA σ G (AG K n)) (hn : n ≤ 1000) : EvP (tLst tA) σ G (LG K n) :=
  ep_lst h (fun vs G' hh => by rw [hh.1]; omega) fun vs G' p _ hh hp => ⟨p, vs, rfl, upd_same, hh.mono (Ex.new hp)⟩
/-- xs + ys, xs known, ys made on the way -/
theorem ep_catX {xs : List V} (ha : Ev ta σ G (.ref a)) (hl : G a = some (.lst xs)) (hb : EvP tb σ G P) (hP : ∀ v G', Ex G G' → P v G' → ∃ p ys, v = .ref p ∧ G' p = some (.lst ys) ∧ xs.length + ys.length ≤ 100000 ∧ ∀ r, G' r = none → R (.ref r) (upd G' r (.lst (xs ++ ys)))) : EvP (tOp rCat ta tb) σ G R := fun H e Q q =>
  ha H e _ fun H1 e1 => hb H1 (e.trans e1) _ fun v G2 H2 g1 g2 e2 p => by
    obtain ⟨b, ys, rfl, hy, hz, hR⟩ := hP v G2 g1 p
    exact ⟨a, b, xs, ys, rfl, rfl, g2 _ _ (g1 _ _ hl), g2 _ _ hy, sz_of hz, fun r hr => q _ (upd G2 r (.lst (xs ++ ys))) _ (g1.trans (Ex.new (g2.none hr))) (Ex.put g2) ((e1.trans e2).trans (Ex.new hr)) (hR r (g2.none hr))⟩
theorem epg_cat (ha : Ev ta σ G (.ref a)) (hl : G a = some (.lst ws)) (hA : AG K n ws G) (hb : EvP tb σ G (LG K m)) (hz : n + m ≤ 1000) : EvP (tOp rCat ta tb) σ G (LG K (n + m)) :=
  ep_catX ha hl hb fun v G' e hp => by
    obtain ⟨p, ys, rfl, hy, hB⟩ := hp
    refine ⟨p, ys, rfl, hy, by rw [hA.1, hB.1]; omega, fun r hr => ⟨r, ws ++ ys, rfl, upd_same, by rw [List.length_append, hA.1, hB.1], fun w hw => ?_⟩⟩
    rcases List.mem_append.mp hw with q | q
    · exact (hA.2 w q).mono (e.trans (Ex.new hr))
    · exact (hB.2 w q).mono (Ex.new hr)
theorem gg_lit (h2 : EvP tb σ G (TupP K (ss.map V.int))) (hl : ss.length ≤ 30) : EvP (tTup (tCons (tC (.str z)) (tCons tb (tCons (tC (.int d)) tNil)))) σ G fun v G' => GG K G' v :=
  (ep_gateP (z := z) (ss := ss) (d := d) ev_c h2 fun _ _ => ev_c).imp fun v G' _ h => ⟨_, h, hl⟩
theorem gt_0 : EvP (tTup tNil) σ G (TupP K (([] : List Int).map V.int)) := ep_TupU (eu_tup ea_nil (Nat.zero_le _))
theorem gt_1 (h : Ev ta σ G (.int i)) : EvP (tTup (tCons ta tNil)) σ G (TupP K (([i] : List Int).map V.int)) := ep_TupU (eu_tup (ea_cons h ea_nil) (by show 1 ≤ 100000; decide))
theorem gt_2 (h : Ev ta σ G (.int i)) (h2 : Ev tb σ G (.int j)) : EvP (tTup (tCons ta (tCons tb tNil))) σ G (TupP K (([i, j] : List Int).map V.int)) := ep_TupU (eu_tup (ea_cons h (ea_cons h2 ea_nil)) (by show 2 ≤ 100000; decide))
theorem gt_3 (h : Ev ta σ G (.int i)) (h2 : Ev tb σ G (.int j)) (h3 : Ev tc σ G (.int k)) : EvP (tTup (tCons ta (tCons tb (tCons tc tNil)))) σ G (TupP K (([i, j, k] : List Int).map V.int)) := ep_TupU (eu_tup (ea_cons h (ea_cons h2 (ea_cons h3 ea_nil))) (by show 3 ≤ 100000; decide))
theorem gt_4 (h : Ev ta σ G (.int i)) : EvP (tTup (tCons ta (tCons ta (tCons ta (tCons ta tNil))))) σ G (TupP K (([i, i, i, i] : List Int).map V.int)) := ep_TupU (eu_tup (ea_cons h (ea_cons h (ea_cons h (ea_cons h ea_nil)))) (by show 4 ≤ 100000; decide))
/-- an item of such a list -/
theorem epg_ix (h : EvP ta σ G (LG K n)) (hi : ∀ G', Ex G G' → Ev tb σ G' (.int i)) (h0 : 0 ≤ i) (h1 : i < n) : EvP (tOp (rIxL K) ta tb) σ G fun v G' => GG K G' v :=
  ep_op1 h fun v G' e hv => by
    obtain ⟨p, ws, rfl, hp, hA⟩ := hv
    obtain ⟨k, rfl⟩ : ∃ k : Nat, i = (k : Int) := ⟨i.toNat, by omega⟩
    have hk : k < ws.length := by rw [hA.1]; omega
    exact ⟨.int k, ws[k], hi G' e, rv_ixL (sq_of hp) (at_list (List.getElem?_eq_getElem hk)), hA.2 _ (List.getElem_mem hk)⟩
end
def DeedOk : Deed → Prop
  | .swap _ g => g.srcs.length ≤ 30
  | _ => True
theorem valid_str {p : Plan} (v : Valid p) : ∀ g ∈ p.gates, PyData.strOk g.kind = true := fun g hg => by
  obtain ⟨⟨lo, hi, hw, _⟩, _⟩ := gate_ok (v.gate g hg)
  unfold wantsM at hw
  cases e : least g.kind with
  | none => rw [e] at hw; cases hw
  | some i =>
    obtain ⟨k, hk, hkz⟩ := least_at9 e
    rw [hkz]
    have := kinds9_ok (k := (k : Int)) (by omega) (by omega)
    rwa [Int.toNat_natCast] at this
/-- the word of a wrong gate -/
def faultW (g : Gate) (lines : Int) : Str := match errGate g lines with
  | none => ""
  | some e => errWord e
def kindsF : List Str := ["yes", "no", "keep", "not", "pick", "most", "both", "either", "unlike"]
def lowF : List Int := [0, 0, 1, 1, 3, 3, 2, 2, 2]
def highF : List Int := [0, 0, 1, 1, 3, 3, 9, 9, 9]
theorem kindsF_wants {k : Int} (h0 : 0 ≤ k) (h1 : k < 9) : wantsM (kindsF.getD k.toNat "") = .ok (lowF.getD k.toNat 0, highF.getD k.toNat 0) := by
  have : ∀ i : Fin 9, wantsM (kindsF.getD i.val "") = .ok (lowF.getD i.val 0, highF.getD i.val 0) := by
    intro i
    match i with
    | ⟨0, _⟩ => rfl
    | ⟨1, _⟩ => rfl
    | ⟨2, _⟩ => rfl
    | ⟨3, _⟩ => rfl
    | ⟨4, _⟩ => rfl
    | ⟨5, _⟩ => rfl
    | ⟨6, _⟩ => rfl
    | ⟨7, _⟩ => rfl
    | ⟨8, _⟩ => rfl
  exact this ⟨k.toNat, by omega⟩
theorem kindsF_none {z : Str} (h : ∀ j : Int, 0 ≤ j → j < 9 → z ≠ kindsF.getD j.toNat "") : wantsM z = .error .kind := by
  unfold wantsM
  cases e : least z with
  | none => rfl
  | some i =>
    exfalso
    rcases least_cases e with r | r | r | r | r | r | r | r | r
    · exact h 0 (by decide) (by decide) r
    · exact h 1 (by decide) (by decide) r
    · exact h 2 (by decide) (by decide) r
    · exact h 3 (by decide) (by decide) r
    · exact h 6 (by decide) (by decide) r
    · exact h 7 (by decide) (by decide) r
    · exact h 8 (by decide) (by decide) r
    · exact h 4 (by decide) (by decide) r
    · exact h 5 (by decide) (by decide) r
theorem cutV_butlast {xs : List V} (h : xs ≠ []) : cutV xs none (some (-1)) = xs.dropLast := by
  unfold cutV
  have hl := List.length_pos_iff.mpr h
  have e : HT.sIx xs.length xs.length (some (-1)) = xs.length - 1 := by
    show (if (-1 : Int) < 0 then ((-1 : Int) + (xs.length : Int)).toNat else min (-1 : Int).toNat xs.length) = _
    rw [if_pos (by decide)]
    omega
  rw [e, HT.sIx_none, List.drop_zero, Nat.sub_zero, List.dropLast_eq_take]
theorem at_last {xs : List V} {v : V} (h : xs.getLast? = some v) : atI xs (-1) = some v := by
  have hn : xs ≠ [] := by rintro rfl; cases h
  have hl := List.length_pos_iff.mpr hn
  unfold atI
  rw [List.getLast?_eq_getElem?] at h
  have e : ixN xs.length (-1) = some (xs.length - 1) := by
    unfold ixN
    rw [if_neg (by omega), if_pos (by omega)]
    congr 1
    omega
  rw [e]
  exact h
/-- take, one, drop -/
theorem set_cut {α : Type} {xs : List α} {k : Nat} {x : α} (h : k < xs.length) : xs.take k ++ [x] ++ xs.drop (k + 1) = xs.set k x := by
  rw [List.set_eq_take_append_cons_drop, if_pos h, List.append_assoc]; rfl
theorem fault_sources {g : Gate} {lines lo hi : Int} (hw : wantsM g.kind = .ok (lo, hi)) (h : ¬ (lo ≤ (g.srcs.length : Int) ∧ (g.srcs.length : Int) ≤ hi)) : faultW g lines = "sources" := by
  unfold faultW errGate; rw [hw]; simp only [h, not_false_eq_true, if_true]; rfl
theorem fault_line {g : Gate} {lines lo hi : Int} (hw : wantsM g.kind = .ok (lo, hi)) (h : lo ≤ (g.srcs.length : Int) ∧ (g.srcs.length : Int) ≤ hi) (h2 : (g.srcs.any fun s => !(decide (0 ≤ s) && decide (s < lines))) = true) : faultW g lines = "line" := by
  unfold faultW errGate; rw [hw]; simp only [h, and_self, not_true_eq_false, if_false, h2, if_true]; rfl
theorem fault_delay {g : Gate} {lines lo hi : Int} (hw : wantsM g.kind = .ok (lo, hi)) (h : lo ≤ (g.srcs.length : Int) ∧ (g.srcs.length : Int) ≤ hi) (h2 : (g.srcs.any fun s => !(decide (0 ≤ s) && decide (s < lines))) = false) : faultW g lines = if 1 ≤ g.delay ∧ g.delay ≤ 60 then ("" : Str) else ("delay" : Str) := by
  unfold faultW errGate; rw [hw]; simp only [h, and_self, not_true_eq_false, if_false, h2]
  by_cases c : 1 ≤ g.delay ∧ g.delay ≤ 60
  · simp only [c, and_self, not_true_eq_false, if_false, if_true]; rfl
  · simp only [c, not_false_eq_true, if_true, if_false]; rfl
theorem fault_kind {g : Gate} {lines : Int} (hw : wantsM g.kind = .error .kind) : faultW g lines = "kind" := by
  unfold faultW errGate; rw [hw]; rfl
def cellsN (far gates : Int) : Int := if far / 8 % 5 = 1 ∧ gates < 20 then 90 + far / 8 % 60 + 180 else 90 + far / 8 % 60
def cellsM (ns : List Int) (gates : Int) : List Int := if 60 < gates then (ns.drop 15).take 5 else if cell ns 1 % 8 = 6 then (ns.drop 15).take 10 ++ (List.range (cellsN (cell ns 1) gates).toNat).map fun k : Nat => cell ns 1 / 8 + 17 * (k : Int) else (ns.drop 15).take 60
theorem cellsN_in {far gates : Int} : 0 ≤ cellsN far gates ∧ cellsN far gates ≤ 330 := by
  unfold cellsN
  split <;> omega
theorem cellsM_len (ns : List Int) (gates : Int) : (cellsM ns gates).length ≤ 400 := by
  have := cellsN_in (far := cell ns 1) (gates := gates)
  unfold cellsM
  split
  · rw [List.length_take]; omega
  · split
    · rw [List.length_append, List.length_take, List.length_map, List.length_range]; omega
    · rw [List.length_take]; omega
section
variable {K : PySem.W.Frag} {σ : L2.St} {G : Hp} {ta tb tl tk tx : TE} {tA : TA} {xs us dv : List V} {a d : Addr} {k : Nat} {x : V}
/-- xs[:k] + [x] + xs[k + 1:] -/
theorem el_setAt (hl : Ev tl σ G (.ref a)) (hs : SqL K G a xs) (hk : Ev tk σ G (.int (k : Int))) (hx : Ev tx σ G x) (h : k < xs.length) (hz : xs.length ≤ 1000) :
    EvL (tOp rCat (tOp rCat (tSl (rSlL K) tl tNoPart (tPart tk)) (tLst (tCons tx tNil))) (tSl (rSlL K) tl (tPart (tOp (rI0 fun i j => .int (i + j)) tk (tC (.int 1)))) tNoPart)) σ G (xs.set k x) := by
  have e1 := el_sl hl eo_none (eo_some hk) hs
  rw [cutV_to] at e1
  have e2 := el_sl hl (eo_some (i := ((k + 1 : Nat) : Int)) (ev_is (ev_op (r := rI0 fun i j => .int (i + j)) hk (ev_c (v := .int 1)) rv_I0) (by rw [Int.natCast_add]; rfl))) eo_none hs
  rw [cutV_from] at e2
  have e3 := el_catN (el_catN e1 (el_lst (ea_cons hx ea_nil) (by show 1 ≤ 100000; decide)) (by rw [List.length_take]; show min k xs.length + 1 ≤ 100000; omega)) e2 (by rw [List.length_append, List.length_take, List.length_drop]; show min k xs.length + 1 + _ ≤ 100000; omega)
  rw [set_cut h] at e3
  exact e3
/-- xs + [(..)] -/
theorem ep_snoc (ha : Ev ta σ G (.ref d)) (hl : G d = some (.lst dv)) (ht : EvA tA σ G us) (hu : us.length ≤ 10) (hz : dv.length ≤ 10000) : EvP (tOp rCat ta (tLst (tCons (tTup tA) tNil))) σ G fun v G' => ∃ nd t, v = .ref nd ∧ G nd = none ∧ G t = none ∧ G' nd = some (.lst (dv ++ [.ref t])) ∧ G' t = some (.tup us) := by
  refine ep_catX (P := fun v G' => ∃ p t, v = .ref p ∧ G t = none ∧ G' p = some (.lst [.ref t]) ∧ G' t = some (.tup us)) ha hl (ep_lst (eap_p (ep_U (eu_tup ht (by omega))) fun v G' _ _ => ea_nil) ?_ ?_) ?_
  · rintro vs G' ⟨v, rfl, _⟩; show 1 ≤ 100000; decide
  · rintro vs G' p e' ⟨v, rfl, t, rfl, ht0, rfl⟩ hp
    exact ⟨p, t, rfl, ht0, upd_same, by rw [upd_ne (show t ≠ p from fun e => by rw [← e, upd_same] at hp; cases hp), upd_same]⟩
  · rintro v G' e' ⟨p, t, rfl, ht0, hp, ht1⟩
    refine ⟨p, [.ref t], rfl, hp, by show _ + 1 ≤ 100000; omega, fun r hr => ⟨r, t, rfl, e'.none hr, ht0, upd_same, ?_⟩⟩
    rw [upd_ne (show t ≠ r from fun e => by rw [← e, ht1] at hr; cases hr)]; exact ht1
end
section
variable {K : PySem.W.Frag} {ms : List Addr} {H H' : Hp} {w : Addr} {s : Stt}
theorem Chg.step1 (c : Chg ms H) (e : Ex (eraL H [w]) H') (hw : ∃ ys, H' w = some (.lst ys)) : Chg ms H' := fun a h => by
  by_cases c1 : a = w
  · subst c1; exact .inl hw
  · have hn : a ∉ [w] := by simp [c1]
    rcases c a h with ⟨ys, q⟩ | ⟨C, dx, fs, q⟩
    · exact .inl ⟨ys, e _ _ (by rw [era_at hn]; exact q)⟩
    · exact .inr ⟨C, dx, fs, e _ _ (by rw [era_at hn]; exact q)⟩
end

/-! ### tests that change things on the way -/
def EvTM (t : TT) (σ : L2.St) (G : Hp) (S : Bool → Hp → Prop) : Prop := ∀ H, Ex G H → ∀ Q : Bool → Hp → Prop, (∀ b H', S b H' → Q b H') → t σ H Q
section
variable {K : PySem.W.Frag} {σ : L2.St} {G : Hp} {te : TE} {t u : TT} {D : Ends} {tu tz : TS} {S S2 : Bool → Hp → Prop} {SV : V → Hp → Prop} {b : Bool}
theorem etm_test (h : EvM te σ G fun v H' => ∃ b, v = .bl b ∧ S b H') : EvTM (tTest te) σ G S := fun H e Q q => h H e _ fun v H' ⟨b, hv, hs⟩ => ⟨b, hv, q b H' hs⟩
theorem etm_B (h : EvM te σ G fun v H' => ∃ b, v = .bl b ∧ S b H') : EvTM (tB te) σ G S := fun H e Q q => h H e _ fun v H' ⟨b, hv, hs⟩ => ⟨b, hv, q b H' hs⟩
theorem etm_not (h : EvTM t σ G fun b H' => S (!b) H') : EvTM (tNot t) σ G S := fun H e Q q => h H e _ fun b H' s => q _ H' s
theorem etm_of (h : EvT t σ G b) : EvTM t σ G fun b' H' => b' = b ∧ Ex G H' := fun H e Q q => h H e _ fun H1 e1 => q b H1 ⟨rfl, e.trans e1⟩
theorem etm_imp (h : EvTM t σ G S) (k : ∀ b H', S b H' → S2 b H') : EvTM t σ G S2 := fun H e Q q => h H e Q fun b H' s => q b H' (k b H' s)
/-- the first is false -/
theorem etm_or0 {P : Hp → Prop} (h : EvTM t σ G fun b H' => b = false ∧ P H') (k : ∀ H', P H' → EvTM u σ H' S) : EvTM (tOr t u) σ G S := fun H e Q q => h H e _ fun b H' s => by
  obtain ⟨rfl, hp⟩ := s
  show u σ H' Q
  exact k H' hp H' (Ex.refl _) Q q
theorem go_whenTM (h : EvTM t σ G S) (k1 : ∀ H', S true H' → Go tu { D with nx := tz D } σ H') (k2 : ∀ H', S false H' → Go tz D σ H') : Go (tSeq (tIfS t tu tNext) tz) D σ G := fun H e =>
  h H e _ fun b H' s => by
    cases b with
    | true => exact k1 H' s H' (Ex.refl H')
    | false => exact k2 H' s H' (Ex.refl H')
theorem em_ix {a : TE} {k : TE} {xs : List V} {i : Int} {v : V} {S : V → Hp → Prop} {P : Hp → Prop} (h : EvM a σ G fun r H' => ∃ t, r = .ref t ∧ SqT K H' t xs ∧ P H') (hk : ∀ H', Ev k σ H' (.int i)) (hi : atI xs i = some v) (hp : ∀ H' H'', P H' → Ex H' H'' → S v H'') : EvM (tOp (rIxT K) a k) σ G S :=
  em_op h fun y H1 hy => em_imp (em_ev (hk H1)) fun z H2 hz Q q => by
    obtain ⟨t, rfl, ht, hP⟩ := hy
    obtain ⟨rfl, e⟩ := hz
    exact rv_ixT (ex_t e ht) hi H2 (Ex.refl _) _ fun H3 e3 => q _ H3 (hp _ _ hP (e.trans e3))
end
/-! ### two boards and two worlds -/
def upS (S : Bool → Stt) (b : Bool) (s : Stt) : Bool → Stt := fun c => if c = b then s else S c
theorem upS_same {S : Bool → Stt} {b : Bool} {s : Stt} : upS S b s b = s := if_pos rfl
theorem upS_ne {S : Bool → Stt} {b c : Bool} {s : Stt} (h : c ≠ b) : upS S b s c = S c := if_neg h
theorem upS_self {S : Bool → Stt} {b : Bool} : upS S b (S b) = S := funext fun c => by
  by_cases h : c = b
  · subst h; exact upS_same
  · exact upS_ne h
structure Dist (X Pq Wd : Bool → Addr) : Prop where
  xx : ∀ b c, b ≠ c → X b ≠ X c
  pp : ∀ b c, b ≠ c → Pq b ≠ Pq c
  ww : ∀ b c, b ≠ c → Wd b ≠ Wd c
  wp : ∀ b c, Wd b ≠ Pq c
structure AllSt (K : PySem.W.Frag) (C : Addr) (ms : List Addr) (X Pq Wd : Bool → Addr) (G : Hp) (S W : Bool → Stt) : Prop where
  brd : ∀ b, BoardSt K C ms G (X b) (Pq b) (S b)
  wld : ∀ b, WorldSt K ms G (Wd b) (W b)
section
variable {K : PySem.W.Frag} {C : Addr} {ms : List Addr} {X Pq Wd : Bool → Addr} {G H : Hp} {S W : Bool → Stt} {b : Bool} {s : Stt}
theorem BoardSt.xl {x ps a : Addr} {ys : List V} (h : BoardSt K C ms G x ps s) (ha : G a = some (.lst ys)) : a ≠ x := fun e => by
  obtain ⟨dx, h', g, l, pv, h1, _⟩ := h.at_
  rw [e, h1] at ha; cases ha
theorem BoardSt.pl {x ps : Addr} (h : BoardSt K C ms G x ps s) : ∃ ys, G ps = some (.lst ys) := by
  obtain ⟨dx, h', g, l, pv, h1, h2, _⟩ := h.at_
  exact ⟨_, h2⟩
theorem WorldSt.wl {w : Addr} (h : WorldSt K ms G w s) : ∃ ys, G w = some (.lst ys) := by
  obtain ⟨vp, i, d, l, dv, h1, _⟩ := h.at_
  exact ⟨_, h1⟩
theorem AllSt.mono (h : AllSt K C ms X Pq Wd G S W) (e : Ex G H) : AllSt K C ms X Pq Wd H S W := ⟨fun b => (h.brd b).mono e, fun b => (h.wld b).mono e⟩
theorem AllSt.doB (D : Dist X Pq Wd) (h : AllSt K C ms X Pq Wd G S W) (e : Ex (eraL G [X b, Pq b]) H) (hb : BoardSt K C ms H (X b) (Pq b) s) : AllSt K C ms X Pq Wd H (upS S b s) W := by
  have hs : ∀ a ∈ [X b, Pq b], a ∈ ms := by intro a ha; simp at ha; rcases ha with rfl | rfl; exact hb.mx; exact hb.mp
  refine ⟨fun c => ?_, fun c => ?_⟩
  · by_cases hc : c = b
    · subst hc; rw [upS_same]; exact hb
    · rw [upS_ne hc]
      obtain ⟨ys, hy⟩ := (h.brd c).pl
      obtain ⟨zs, hz⟩ := (h.brd b).pl
      refine (h.brd c).step e hs ?_ ?_ hb.chg
      · have h1 := (h.brd c).xl hz
        have h2 := D.xx c b hc
        simp; exact ⟨h2, fun e => h1 e.symm⟩
      · have h1 := (h.brd b).xl hy
        have h2 := D.pp c b hc
        simp; exact ⟨h1, h2⟩
  · obtain ⟨ys, hy⟩ := (h.wld c).wl
    refine (h.wld c).step e hs ?_ hb.chg
    have h1 := (h.brd b).xl hy
    have h2 := D.wp c b
    simp; exact ⟨h1, h2⟩
theorem AllSt.doW (D : Dist X Pq Wd) (h : AllSt K C ms X Pq Wd G S W) (e : Ex (eraL G [Wd b]) H) (hb : WorldSt K ms H (Wd b) s) : AllSt K C ms X Pq Wd H S (upS W b s) := by
  have hs : ∀ a ∈ [Wd b], a ∈ ms := by intro a ha; rw [List.mem_singleton.mp ha]; exact hb.mw
  refine ⟨fun c => ?_, fun c => ?_⟩
  · obtain ⟨ys, hy⟩ := (h.wld b).wl
    refine (h.brd c).step e hs ?_ ?_ hb.chg
    · have h1 := (h.brd c).xl hy
      simp; exact fun e => h1 e.symm
    · have h2 := D.wp b c
      simp; exact fun e => h2 e.symm
  · by_cases hc : c = b
    · subst hc; rw [upS_same]; exact hb
    · rw [upS_ne hc]
      exact (h.wld c).step e hs (by simp; exact D.ww c b hc) hb.chg
theorem AllSt.doB_ex {B : Hp} (h : AllSt K C ms X Pq Wd G S W) (e0 : Ex B G) (hB : ∀ a ∈ ms, B a = none) (e : Ex (eraL G [X b, Pq b]) H) : Ex B H :=
  ex_era e0 (fun a ha => hB a (by simp at ha; rcases ha with rfl | rfl; exact (h.brd b).mx; exact (h.brd b).mp)) e
theorem AllSt.doW_ex {B : Hp} (h : AllSt K C ms X Pq Wd G S W) (e0 : Ex B G) (hB : ∀ a ∈ ms, B a = none) (e : Ex (eraL G [Wd b]) H) : Ex B H :=
  ex_era e0 (fun a ha => hB a (by rw [List.mem_singleton.mp ha]; exact (h.wld b).mw)) e
end
/-- a new board stands -/
theorem board_st {K : PySem.W.Frag} {C : Addr} {ms : List Addr} {H0 H' : Hp} {x : Addr} {p : Plan} {ins : List Bool} (h : BoardNew K C H0 x H' p (valsOf p ins)) (e : Ex H0 H') (hx0 : H0 x = none) (c : Chg ms H0) : ∃ ps, H0 ps = none ∧ ps ≠ x ∧ BoardSt K C (x :: ps :: ms) H' x ps ⟨p, ins, [], []⟩ := by
  obtain ⟨dx, h', g, ps, l, ws, h1, h2, h3, h4, h5, h6, n1, n2, n3, n4, d1, d2, d3⟩ := h
  have npx : ps ≠ x := fun e => by rw [e, h1] at h5; cases h5
  have nhx : h' ≠ x := fun e => by rw [e, h1] at h2; cases h2
  have ngx : g ≠ x := fun e => by rw [e, h1] at h3; cases h3
  have nlx : l ≠ x := fun e => by rw [e, h1] at h6; cases h6
  have chg : Chg (x :: ps :: ms) H' := fun a ha => by
    rcases List.mem_cons.mp ha with rfl | ha
    · exact .inr ⟨_, _, _, h1⟩
    · rcases List.mem_cons.mp ha with rfl | ha
      · exact .inl ⟨_, h5⟩
      · exact (c.mono e) a ha
  have out : ∀ a, a ≠ x → a ≠ ps → H0 a = none → a ∉ x :: ps :: ms := fun a a1 a2 a3 => by
    simp only [List.mem_cons, not_or]; exact ⟨a1, a2, c.out a3⟩
  refine ⟨ps, n3, npx, ⟨dx, h', g, l, [], h1, h5, sq_of ?_, ⟨ws, sq_of ?_, rows_imp h4 fun _ _ r => (r.mono e).era chg⟩, sq_of ?_, rows_nil⟩, npx, by simp, by simp, chg⟩
  · rw [era_at (out _ nhx d1.symm n1)]; exact h2
  · rw [era_at (out _ ngx d2.symm n2)]; exact h3
  · rw [era_at (out _ nlx d3.symm n4)]; exact h6
/-! [plan, list(ins), [], []] -/
def NewW (G : Hp) (v : V) (G' : Hp) (vp : V) (xs : List V) : Prop := ∃ w i d l, v = .ref w ∧ G w = none ∧ G i = none ∧ G d = none ∧ G l = none ∧ i ≠ w ∧ d ≠ w ∧ l ≠ w ∧ G' w = some (.lst [vp, .ref i, .ref d, .ref l]) ∧ G' i = some (.lst xs) ∧ G' d = some (.lst []) ∧ G' l = some (.lst [])
theorem ep_newW {σ : L2.St} {G : Hp} {ta tb : TE} {vp : V} {xs : List V} (h : Ev ta σ G vp) (h2 : EvL tb σ G xs) : EvP (tLst (tCons ta (tCons tb (tCons (tLst tNil) (tCons (tLst tNil) tNil))))) σ G fun v G' => NewW G v G' vp xs := fun H e Q q =>
  h H e _ fun H1 e1 => h2 H1 (e.trans e1) _ fun i H2 hi e2 hi2 => ⟨sz_of (Nat.zero_le _), fun d hd => ⟨sz_of (Nat.zero_le _), fun l hl => ⟨sz_of (by show 4 ≤ 100000; decide), fun w hw => by
    have e3 : Ex H2 (upd H2 d (.lst [])) := Ex.new hd
    have e4 : Ex (upd H2 d (.lst [])) (upd (upd H2 d (.lst [])) l (.lst [])) := Ex.new hl
    have e5 : Ex (upd (upd H2 d (.lst [])) l (.lst [])) (upd (upd (upd H2 d (.lst [])) l (.lst [])) w (.lst [vp, .ref i, .ref d, .ref l])) := Ex.new hw
    have eH2 := (e.trans e1).trans e2
    have hil : i ≠ l := ne_of_none (o := .lst xs) (e3 _ _ hi2) hl
    have hdl : d ≠ l := ne_of_none (o := .lst []) upd_same hl
    exact q _ _ _ (((eH2.trans e3).trans e4).trans e5) (Ex.refl _) (((e1.trans e2).trans e3).trans (e4.trans e5)) ⟨w, i, d, l, rfl, (((eH2.trans e3).trans e4)).none hw, (e.trans e1).none hi, eH2.none hd, (eH2.trans e3).none hl,
      ne_of_none (e4 _ _ (e3 _ _ hi2)) hw, ne_of_none (o := .lst []) (e4 _ _ upd_same) hw, ne_of_none (o := .lst []) upd_same hw, upd_same, e5 _ _ (e4 _ _ (e3 _ _ hi2)), e5 _ _ (e4 _ _ upd_same), e5 _ _ upd_same⟩⟩⟩⟩
theorem world_st {K : PySem.W.Frag} {ms : List Addr} {G H' : Hp} {v vp : V} {p : Plan} {ins : List Bool} (h : NewW G v H' vp (ins.map V.bl)) (e : Ex G H') (c : Chg ms G) (hp : PlanAt K (eraL G ms) vp p) : ∃ w, v = .ref w ∧ G w = none ∧ WorldSt K (w :: ms) H' w ⟨p, ins, [], []⟩ := by
  obtain ⟨w, i, d, l, rfl, n1, n2, n3, n4, d1, d2, d3, h1, h2, h3, h4⟩ := h
  have out : ∀ a, a ≠ w → G a = none → a ∉ w :: ms := fun a a1 a2 => by
    simp only [List.mem_cons, not_or]; exact ⟨a1, c.out a2⟩
  refine ⟨w, rfl, n1, ⟨vp, i, d, l, [], h1, hp.mono (era_grow e fun a ha => ?_), sq_of ?_, ?_, sq_of ?_, rows_nil⟩, by simp, (c.mono e).cons h1⟩
  · rcases List.mem_cons.mp ha with rfl | ha
    · exact .inr n1
    · exact .inl ha
  · rw [era_at (out _ d1 n2)]; exact h2
  · rw [era_at (out _ d2 n3)]; exact h3
  · rw [era_at (out _ d3 n4)]; exact h4

/-! ### solved, round by round: what is told, else None -/
def valV (d w : List Bool) (i : Nat) : V := if d.getD i false = true then .bl (w.getD i false) else .non
def listV (d w : List Bool) (n : Nat) : List V := (List.range n).map (valV d w)
theorem listV_len {d w : List Bool} {n : Nat} : (listV d w n).length = n := by unfold listV; rw [List.length_map, List.length_range]
theorem listV_get {d w : List Bool} {n i : Nat} (h : i < n) : (listV d w n)[i]? = some (valV d w i) := by
  unfold listV
  rw [List.getElem?_map, List.getElem?_range h]; rfl
theorem listV_at {d w : List Bool} {n : Nat} {k : Int} (h0 : 0 ≤ k) (h1 : k.toNat < n) : atI (listV d w n) k = some (valV d w k.toNat) := by
  obtain ⟨j, rfl⟩ : ∃ j : Nat, k = (j : Int) := ⟨k.toNat, by omega⟩
  rw [Int.toNat_natCast] at h1 ⊢
  exact at_list (listV_get h1)
theorem listV_set {d w : List Bool} {n k : Nat} (hk : k < d.length) : (listV d w n).set k (.bl (w.getD k false)) = listV (d.set k true) w n := by
  refine List.ext_getElem? fun i => ?_
  rw [List.getElem?_set, listV_len]
  by_cases c : k = i
  · subst c
    rw [if_pos rfl]
    by_cases hn : k < n
    · rw [if_pos hn, listV_get hn]
      unfold valV
      rw [getD_set hk, if_pos rfl, if_pos rfl]
    · rw [if_neg hn, List.getElem?_eq_none (by rw [listV_len]; omega)]
  · rw [if_neg c]
    by_cases hn : i < n
    · rw [listV_get hn, listV_get hn]
      unfold valV
      rw [getD_set hk, if_neg c]
    · rw [List.getElem?_eq_none (by rw [listV_len]; omega), List.getElem?_eq_none (by rw [listV_len]; omega)]
theorem listV_all {d w : List Bool} (h : d.all id = true) (hl : d.length = w.length) : listV d w w.length = w.map V.bl := by
  refine List.ext_getElem? fun i => ?_
  by_cases hn : i < w.length
  · rw [listV_get hn, List.getElem?_map, List.getElem?_eq_getElem hn]
    unfold valV
    have hd : d.getD i false = true := by
      rw [List.getD_eq_getElem?_getD, List.getElem?_eq_getElem (by omega)]
      exact List.all_eq_true.mp h _ (List.getElem_mem (by omega))
    rw [if_pos hd, List.getD_eq_getElem?_getD, List.getElem?_eq_getElem hn]; rfl
  · rw [List.getElem?_eq_none (by rw [listV_len]; omega), List.getElem?_eq_none (by rw [List.length_map]; omega)]
theorem valV_non {d w : List Bool} {i : Nat} : decide (valV d w i = .non) = !(d.getD i false) := by
  unfold valV
  cases d.getD i false <;> simp
theorem flat_valV (d w : List Bool) (ss : List Int) : (ss.map fun s => valV d w s.toNat).all flatV = true := by
  rw [List.all_eq_true]
  intro v hv
  obtain ⟨i, _, rfl⟩ := List.mem_map.mp hv
  unfold valV
  split <;> rfl
theorem inV_valV (d w : List Bool) (ss : List Int) : inV .non (ss.map fun s => valV d w s.toNat) = !okSrcs d ss := by
  unfold inV okSrcs
  induction ss with
  | nil => rfl
  | cons s r ih =>
    rw [List.map_cons, List.any_cons, ih, List.map_cons, List.all_cons, Bool.not_and]
    congr 1
    unfold valV
    cases d.getD s.toNat false <;> rfl
theorem bits_valV {d w : List Bool} {ss : List Int} (h : okSrcs d ss = true) : (ss.map fun s => valV d w s.toNat) = (bitsOf w ss).map V.bl := by
  unfold bitsOf
  rw [List.map_map]
  refine List.map_congr_left fun s hs => ?_
  unfold valV
  rw [if_pos (okSrcs_iff.mp h s hs)]; rfl
theorem listV_start {p : Plan} {ins w : List Bool} (m0 : 0 ≤ p.many) (hi : (ins.length : Int) = p.many) (hs : Solves p ins w) : ins.map V.bl ++ List.replicate p.gates.length V.non = listV (done0 p) w p.lines.toNat := by
  have hn : p.lines.toNat = ins.length + p.gates.length := by unfold Plan.lines; omega
  refine List.ext_getElem? fun i => ?_
  by_cases c : i < ins.length
  · rw [List.getElem?_append_left (by rw [List.length_map]; exact c), listV_get (by omega), List.getElem?_map, List.getElem?_eq_getElem c]
    unfold valV
    rw [done0_get (by omega), if_pos (decide_eq_true (by omega))]
    have := hs.ins (i : Int) (by omega) (by omega)
    rw [Int.toNat_natCast] at this
    rw [this, List.getD_eq_getElem?_getD, List.getElem?_eq_getElem c]; rfl
  · rw [List.getElem?_append_right (by rw [List.length_map]; omega), List.length_map]
    by_cases c2 : i < p.lines.toNat
    · rw [listV_get c2, List.getElem?_replicate, if_pos (by omega)]
      unfold valV
      rw [done0_get (by omega), if_neg (by rw [decide_eq_false (by omega)]; decide)]
    · rw [List.getElem?_eq_none (by rw [List.length_replicate]; omega), List.getElem?_eq_none (by rw [listV_len]; omega)]
section
variable {K : PySem.W.Frag} {ms : List Addr} {H H' : Hp} {w q : Addr} {s : Stt} {o : HO} {σ : L2.St} {G : Hp} {ta te : TE} {D : Ends} {tz : TS} {xs : List V} {v : V}
theorem WorldSt.own (h : WorldSt K (q :: ms) H w s) (hw : w ∈ ms) (hq : q ∉ ms) : WorldSt K ms (upd H q o) w s :=
  h.to (fun a u z => by
    obtain ⟨z1, z2⟩ := era_some z
    rw [List.mem_cons, not_or] at z1
    rw [era_at z1.2, upd_ne z1.1]; exact z2) (fun u z => by rw [upd_ne (show w ≠ q from fun e => hq (e ▸ hw))]; exact z) hw (fun a ha => by
    rw [upd_ne (show a ≠ q from fun e => hq (e ▸ ha))]; exact h.chg a (List.mem_cons_of_mem _ ha))
/-- append to a list that is made on the way and dropped -/
theorem go_appN (h : EvL ta σ G xs) (hv : Ev te σ G v) (hz : xs.length < 100000) (k : Go tz D σ G) : Go (tSeq (tDrop (tBM K "list" rAppend ta (tCons te tNil))) tz) D σ G := fun H e =>
  h H e _ fun p H1 hp e1 h1 => ⟨Or.inl ⟨rfl, xs, sq_of h1⟩, hv H1 (e.trans e1) _ fun H2 e2 => ⟨p, xs, v, rfl, rfl, e2 _ _ h1, sz_lt hz, k _ (Ex.mut ((e.trans e1).trans e2) (e.none hp))⟩⟩
end
/-! what a board keeps is short -/
def Short (s : Stt) : Prop := s.last.length ≤ 300 ∧ ∀ t ∈ s.past, t.lines.length ≤ 300
theorem linesPut_len {p : Plan} {ins : List Bool} {l : Int} {b : Bool} (v : Valid p) : (linesPut p ins l b).length ≤ 300 := by
  unfold linesPut
  split
  · exact Nat.zero_le _
  · have := seersM_len (p := p) (l := l)
    have := v.m60; have := v.n200
    have : p.lines = p.many + p.gates.length := rfl
    omega
theorem linesSwap_len {p : Plan} {l : Int} (h : p.lines ≤ 260) : (linesSwap p l).length ≤ 300 := by
  unfold linesSwap
  rw [(List.mergeSort_perm _ _).length_eq, List.length_cons]
  have := seersM_len (p := p) (l := l)
  omega
theorem after_short {m : Int} {n : Nat} {s : Stt} (h : s.Ok m n) (k : Short s) (d : Deed) : Short (after s d) := by
  obtain ⟨k1, k2⟩ := k
  have hv := h.now.val
  have hl : s.p.lines ≤ 260 := by
    have := hv.m60; have := hv.n200
    have : s.p.lines = s.p.many + s.p.gates.length := rfl
    omega
  have snoc : ∀ (x : Snap), x.lines.length ≤ 300 → ∀ t ∈ s.past ++ [x], t.lines.length ≤ 300 := fun x hx t ht => by
    rcases List.mem_append.mp ht with q | q
    · exact k2 t q
    · rw [List.mem_singleton.mp q]; exact hx
  cases e : doR s d with
  | error x => rw [(after_err e).1]; exact ⟨k1, k2⟩
  | ok s' =>
    rw [(after_ok e).1]
    cases d with
    | put l b =>
      rw [doR_put] at e
      split at e
      · cases e
        exact ⟨linesPut_len hv, snoc _ (linesPut_len hv)⟩
      · cases e
    | swap l g =>
      rw [doR_swap] at e
      split at e
      · split at e
        · cases e
        · split at e
          · cases e
          · cases e
            have := linesSwap_len (p := swapP s.p l g) (l := l) (by rw [swapP_lines]; exact hl)
            exact ⟨this, snoc _ this⟩
      · cases e
    | back =>
      rw [doR_back] at e
      split at e
      · cases e
      · rename_i t ht
        cases e
        exact ⟨k2 t (List.mem_of_getLast? ht), fun x hx => k2 x (List.dropLast_subset _ hx)⟩

/-! ### a list comprehension whose element may raise -/
section
open PySem.Spec PyProof.Rows
theorem noteFrame_frame {x : Value} {e1 e2 : Env} (h : e1.frame = e2.frame) : noteFrame x e1 = noteFrame x e2 := by
  unfold noteFrame PySem.frameOf; rw [h]
section
variable {M : Model} {A : Around} {E : Value → Shared → Prop} {s : Shared} {Z : Obj → Prop} {base : Heap} {env : Env} {outer : List Env} {L e : Addr} {fl : Value}
/-- an exception that stands traced, whatever its flight, leaves -/
theorem leaves_anyZ {Q : Unit → Shared → Prop} (hZ : HandSPX.Steady Z) (hfr : A.frames = some (env :: outer)) (hf : env.frame = some L) (hkb : base.StaysIn s.heap) (hen : base.get? e = none) (hl : s.heap.FunFrames base (env :: outer)) (ht : HandSPX.TracedZ s.heap base e Z fl)
    (hQ : ∀ h', HandSPX.FlyingZ base outer e Z h' → s.heap.UpToSlots h' → Q () { s with heap := h' }) : wpAny M A (leaving env (.ref e)) Q E s := by
  have ht0 := ht
  obtain ⟨oe, vs, T, oT, ts, he, hz, hd, h1, hnT, hTe, hT, hdT, h3⟩ := ht
  unfold leaving noteFrame
  simp only [hf]
  refine wpAny_bind (wpAny_bind (wpAny_field he hd h1 ?_))
  rw [if_pos (show (Value.ref T != Value.none) = true from by simp)]
  refine wpAny_bind (wpAny_field hT hdT h3 ?_)
  by_cases c : (fl == rawInt L) = true
  · rw [if_pos c]
    refine wpAny_pure (HandSPX.setFlight_noneZ hkb hl ht0 fun h' k1 k2 k3 k4 => ?_)
    obtain ⟨_, _, k2⟩ := k2
    exact hQ h' ⟨k1, hen, k2, k3⟩ k4
  · rw [if_neg c]
    refine wpAny_bind (wpAny_setField hT hdT (Array.getElem?_eq_some_iff.mp h3).1 ?_)
    have other : ∀ b, b ≠ T → (s.heap.update T (Obj.mapFields (·.setIfInBounds 3 Value.none))).get? b = s.heap.get? b := fun b hb => Heap.get?_update_other _ _ (Ne.symm hb)
    have noRec : ∀ b o, s.heap.get? b = some o → (∀ vs, o.data ≠ .fields vs) → b ≠ T := fun b o hb hnf q => by
      rw [q, hT] at hb; injection hb with hb; subst hb; exact hnf ts hdT
    refine HandSPX.wpAny_newEntryZ hZ hfr (hl.of_keeps fun b o hb hnf => ⟨o, (other b (noRec b o hb hnf)).trans hb, rfl⟩) hf ((other e (Ne.symm hTe)).trans he)
      (fun b o hbo => (other b fun q => by rw [q, hnT] at hbo; cases hbo).trans (hkb b o hbo)) hen hd (Array.getElem?_eq_some_iff.mp h1).1 hz fun h' hL => ?_
    obtain ⟨x1, ⟨_, _, x2⟩, x3, x4⟩ := hL
    exact hQ h' ⟨x1, hen, x2, x3⟩ fun b o hb hnf => x4 b o ((other b (noRec b o hb hnf)).trans hb) hnf
end
theorem frames_but {B B' h h' : Heap} {C : Addr} (same : ∀ b, b ≠ C → h'.get? b = h.get? b) (bn : ∀ b, B.get? b = none → B'.get? b = none) : ∀ {l : List Env}, h.FunFrames B l → (∀ L ∈ frs l, L ≠ C) → h'.FunFrames B' l
  | [], _, _ => trivial
  | env :: l, x, hn => by
    obtain ⟨hk, ⟨L, o, hf, h0, ho, hd⟩, hr⟩ := x
    have hL : L ≠ C := hn L (List.mem_filterMap.mpr ⟨env, List.mem_cons_self, hf⟩)
    exact ⟨hk, ⟨L, o, hf, bn L h0, (same L hL).trans ho, hd⟩, frames_but same bn hr fun b hb => by
      obtain ⟨e, he, q⟩ := List.mem_filterMap.mp hb
      exact hn b (List.mem_filterMap.mpr ⟨e, List.mem_cons_of_mem _ he, q⟩)⟩
/-- the block's context, with a wish about what its calls let out -/
def blx (X : Cx) (s : Shared) (H : Hp) (scope : Scope) (cenv : Env) (fp : List Addr) (f : Value → Shared → Prop) : Cx := { X.blk s H scope cenv fp with xe := f }
theorem ok_blx {X : Cx} {s : Shared} {H : Hp} {scope : Scope} {cenv : Env} {fp : List Addr} {f : Value → Shared → Prop} (k : (X.blk s H scope cenv fp).Ok) : (blx X s H scope cenv fp f).Ok :=
  ⟨k.mod, k.kind, k.glob, k.blt, k.above, k.inj, k.has, k.cab, k.hd, k.frames, k.stk, k.exf, k.bs, k.bsz, k.noex, k.exfs, k.funs, k.frf⟩
theorem ok_blk {X : Cx} {s : Shared} {H : Hp} {scope : Scope} {cenv : Env} {fp : List Addr} {f : Value → Shared → Prop} (k : (blx X s H scope cenv fp f).Ok) : (X.blk s H scope cenv fp).Ok :=
  ⟨k.mod, k.kind, k.glob, k.blt, k.above, k.inj, k.has, k.cab, k.hd, k.frames, k.stk, k.exf, k.bs, k.bsz, k.noex, k.exfs, k.funs, k.frf⟩
theorem inv_blx {X : Cx} {s : Shared} {H : Hp} {scope : Scope} {cenv : Env} {fp : List Addr} {f : Value → Shared → Prop} {pins : List (Addr × Obj)} {σ : L2.St} {H' : Hp} {s' : Shared} (I : Inv (X.blk s H scope cenv fp) pins σ H' s') : Inv (blx X s H scope cenv fp f) pins σ H' s' :=
  ⟨ok_blx I.ok, I.os, I.bare, I.base, I.loc, I.cell, I.free, I.freeC, I.pin, I.hok, I.len⟩
theorem inv_blk {X : Cx} {s : Shared} {H : Hp} {scope : Scope} {cenv : Env} {fp : List Addr} {f : Value → Shared → Prop} {pins : List (Addr × Obj)} {σ : L2.St} {H' : Hp} {s' : Shared} (I : Inv (blx X s H scope cenv fp f) pins σ H' s') : Inv (X.blk s H scope cenv fp) pins σ H' s' :=
  ⟨ok_blk I.ok, I.os, I.bare, I.base, I.loc, I.cell, I.free, I.freeC, I.pin, I.hok, I.len⟩
/-- what a call of the block lets out -/
def OutB (X : Cx) (E : XK) (s : Shared) (H : Hp) (scope : Scope) (cenv : Env) (fp : List Addr) : Value → Shared → Prop := fun u s' => ∃ pins σ HB sB, Inv (X.blk s H scope cenv fp) pins σ HB sB ∧ L2.CX X.prog X.w X.stack HB sB E u s'
theorem passB {X : Cx} {E : XK} {s : Shared} {H : Hp} {scope : Scope} {cenv : Env} {fp : List Addr} (σ : L2.St) : PassesAt (L2.CX X.prog X.w) (blx X s H scope cenv fp (OutB X E s H scope cenv fp)) σ E :=
  fun pins H s e s' I c => ⟨pins, σ, H, s, inv_blk I, c⟩
/-- it leaves the block: noted, the block's variables let go, and up to the def's wish -/
theorem out_block {X : Cx} {E : XK} {E₁ : Value → Shared → Prop} {pins : List (Addr × Obj)} {σ : L2.St} {H3 : Hp} {s3 : Shared} {scope : Scope} {ce : Env} {fp : List Addr} {Qf : Value → Shared → Prop} {acc : Value}
    (hs : X.stack = X.env :: X.outer) (hf : X.env.frame = some X.env.locals) (hex : X.ex = []) (hx : X.xe = fun e s' => wpAny (model X.prog X.w) X.A (leaving X.env e) (fun _ s'' => L2.CX X.prog X.w X.outer X.H_0 X.s_0 E e s'') E₁ s')
    (I3 : Inv X pins σ H3 s3) (f3 : ∀ b ∈ fp, FpOk X pins H3 b ∧ b < s3.heap.objs.size) (cF : ce.frame = X.env.frame) (cL : ce.locals = s3.heap.objs.size) {u : Value} {s' : Shared} (x : OutB X E s3 H3 scope ce fp u s') :
    notedBy (model X.prog X.w) X.A ce (fun e s'' => compPost (model X.prog X.w) X.A X.xe none Qf acc s3.heap.objs.size (.error e) s'') u s' := by
  obtain ⟨pB, σB, HB, sB, IB, a, B, H', cls, d, rfl, fl, hok, ub, na, os, ag, hE⟩ := x
  have I7 : Inv X pins σ HB sB := I3.call' (ch := fp) IB.os IB.base IB.hok IB.bare fun b hb => ⟨(f3 b hb).1.2.2.2.1, (f3 b hb).1.2.1, (f3 b hb).1.2.2.2.2.1, (f3 b hb).1.2.2.2.2.2⟩
  have hfr : X.A.frames = some (X.env :: X.outer) := by rw [I7.ok.frames, hs]
  generalize hC : s3.heap.objs.size = C at *
  have nC : HB C = none := by
    have z : HB ce.locals = none := IB.free
    rw [cL] at z; exact z
  obtain ⟨m, hn, _⟩ := IB.loc
  have hn : sB.heap.Ns ce.locals m := hn
  rw [cL] at hn
  have hn0 := hn
  obtain ⟨oC, es, ep, hoC, _⟩ := hn0
  have cfs : C ∉ frs X.stack := fun h => by
    rcases List.mem_cons.mp (I3.stkSub C h) with z | z
    · have := I3.lt; rw [← z, hC] at this; exact absurd this (Nat.lt_irrefl _)
    · exact I3.nofs (Nat.le_of_eq hC) z
  have hBC : B.get? C = some oC := ub.keep C oC hoC nC cfs
  have hH'C : H' C = none := ub.free C oC hoC nC
  have fl' := fl
  rw [hs] at fl'
  show wpAny _ X.A (noteFrame (.ref a) ce) _ _ s'
  rw [noteFrame_frame cF]
  refine HandSPX.looks_onZ Zc.steady hfr hf fl' fun h1 hh up1 => ?_
  obtain ⟨k1, k2, k3, k4⟩ := hh
  obtain ⟨B', b1, b2⟩ := restrict B fun b => decide (b ≠ C)
  have bk : ∀ b o, b ≠ C → B.get? b = some o → B'.get? b = some o := fun b o hb e => by rw [b1 b (by simpa using hb)]; exact e
  have bb : ∀ b o, B'.get? b = some o → b ≠ C ∧ B.get? b = some o := fun b o e => by
    by_cases hb : b = C
    · rw [b2 b (by simpa using hb)] at e; cases e
    · rw [b1 b (by simpa using hb)] at e; exact ⟨hb, e⟩
  have bn : ∀ b, B.get? b = none → B'.get? b = none := fun b e => by
    cases q : B'.get? b with
    | none => rfl
    | some o => rw [(bb b o q).2] at e; cases e
  refine ⟨m, ?_, fun h' sb cenv hc => ?_⟩
  · obtain ⟨o, es, ep, e, r⟩ := hn
    rw [hoC] at e; cases e
    exact ⟨oC, es, ep, k1 C oC hBC, r⟩
  have same : ∀ b, b ≠ C → h'.get? b = h1.get? b := sb.2
  have naC : a ≠ C := fun e => by rw [e, hBC] at k2; cases k2
  obtain ⟨oe, vs, T, oT, ts, t1, t2, t3, t4, t5, t6, t7, t8, t9⟩ := k4
  have nTC : T ≠ C := fun e => by rw [e, hBC] at t5; cases t5
  have tz : HandSPX.TracedZ h' B' a (Zc cls d) (rawInt X.env.locals) := ⟨oe, vs, T, oT, ts, by rw [same a naC]; exact t1, t2, t3, t4, bn T t5, t6, by rw [same T nTC]; exact t7, t8, t9⟩
  have fC : ∀ L ∈ frs (X.env :: X.outer), L ≠ C := fun L hL e => cfs (by rw [hs]; rw [← e]; exact hL)
  have ff : h'.FunFrames B' (X.env :: X.outer) := frames_but same bn k3 fC
  have st : B'.StaysIn h' := fun b o e => by
    obtain ⟨hb, e⟩ := bb b o e
    rw [same b hb]; exact k1 b o e
  have t4' : h'.get? a = some oe := by rw [same a naC]; exact t1
  unfold PySem.passOn
  refine wpAny_bind (wpAny_field t4' t3 t4 ?_)
  dsimp only
  rw [if_neg (show ¬ ((Value.ref T == Value.none) = true) from by simp)]
  refine wpAny_bind (HandSPX.setFlight_anyZ st ff tz fun h2 q1 q2 q3 up2 => wpAny_throw ?_)
  rw [hx]
  refine leaves_anyZ Zc.steady hfr hf q1 (bn a k2) q2 q3 fun h4 fl4 up4 => ?_
  have hex' : ∀ b, b ∉ X.ex := fun b hb => by rw [hex] at hb; cases hb
  have nst : ∀ b o, X.s_0.heap.get? b = some o → b ∉ X.fs → b ∉ frs X.stack := fun b o e hb hm => by
    rcases List.mem_cons.mp (I7.stkSub b hm) with z | z
    · have h1 := Heap.lt_size e
      have h2 := I7.ok.above
      rw [z] at h1
      exact absurd (Nat.lt_of_lt_of_le h1 h2) (Nat.lt_irrefl _)
    · exact hb z
  have noC : ∀ b o, X.s_0.heap.get? b = some o → b ≠ C := fun b o e hb => by
    have h1 := Heap.lt_size e
    have h2 := I3.sz
    rw [hb, ← hC] at h1
    exact absurd (Nat.lt_of_lt_of_le h1 h2) (Nat.lt_irrefl _)
  refine ⟨a, B', H', cls, d, rfl, fl4, fun b o q => (hok b o q).stay (fun c u hc r => bk c u (fun e => ?_) r) (fun _ r => r) fun _ _ r => r,
    ⟨fun b o e n hb => ?_, fun b o e hb => ?_, fun b o e n => ?_, fun b o e hb => ?_, fun b xs e => ub.tups b xs (I7.base.tups b xs e), fun b o xs e => ub.frzs b o xs (I7.base.frzs b o xs e), fun b ps e => ?_⟩, na, os.trans I7.os, ag, hE⟩
  · rcases hc with hc | hc
    · rw [← hc, e, hH'C] at q; cases q
    · rw [e, hH'C] at hc; cases hc
  · exact bk b o (noC b o e) (ub.keep b o (I7.base.keep b o e n hb (hex' b)) (I7.base.free b o e n (hex' b)) (nst b o e hb))
  · obtain ⟨_, o₀, e₀, hnf⟩ := I7.ok.funs.mem hb
    rw [e] at e₀; cases e₀
    obtain ⟨sl, e1⟩ := I7.base.slot b o e (I7.ok.frf b hb) hb (hex' b)
    obtain ⟨sl2, e2⟩ := ub.slot b _ e1 (by rw [hs]; exact List.mem_of_mem_tail (by unfold frs; rw [List.filterMap_cons, hf]; exact hb))
    obtain ⟨sl3, e3⟩ := up1 b _ e2 hnf
    have e3' := (same b (noC b o e)).trans e3
    obtain ⟨sl4, e4⟩ := up2 b _ e3' hnf
    obtain ⟨sl5, e5⟩ := up4 b _ e4 hnf
    exact ⟨sl5, e5⟩
  · obtain ⟨sl, e1⟩ := I7.base.any e n (hex' b)
    exact ub.free b _ e1 (I7.base.free b o e n (hex' b))
  · obtain ⟨o1, e1⟩ := I7.base.there b o e (hex' b)
    obtain ⟨o2, e2⟩ := ub.there b o1 e1 (nst b o e hb)
    exact ⟨o2, bk b o2 (noC b o e) e2⟩
  · obtain ⟨m1, e1⟩ := I7.base.tbls b ps e
    obtain ⟨m2, e2⟩ := ub.tbls b _ e1
    exact ⟨m1 ++ m2, by rw [e2, Array.append_assoc]⟩
/-- [elt for tg in iter ..], a def's own, the element a call that may raise -/
theorem pe_lcE {X : Cx} {E : XK} {E₁ : Value → Shared → Prop} {elt tg iter : Expr} {ifs : List Expr} {scope : Scope} {own : List (Str × Nat)} {pos : Pos} {wi : TI} {g : TG} {tt : TT} {te : TE}
    (hs : X.stack = X.env :: X.outer) (hf : X.env.frame = some X.env.locals) (hex : X.ex = []) (hx : X.xe = fun e s' => wpAny (model X.prog X.w) X.A (leaving X.env e) (fun _ s'' => L2.CX X.prog X.w X.outer X.H_0 X.s_0 E e s'') E₁ s') (hc : X.calm = true) (hN : X.N.Nodup) (hi : PI X tg iter wi) (ok : BlkOk X.N X.env.scope scope own)
    (hg : ∀ (s : Shared) (H : Hp) (C : Addr) (cl : List (Str × Addr)) (fp : List Addr), PG (X.blk s H scope (compEnvC scope cl C X.env) fp) tg g) (ht : ∀ (s : Shared) (H : Hp) (C : Addr) (cl : List (Str × Addr)) (fp : List Addr), PTs (X.blk s H scope (compEnvC scope cl C X.env) fp) ifs tt)
    (he : ∀ (s : Shared) (H : Hp) (C : Addr) (cl : List (Str × Addr)) (fp : List Addr), PE (blx X s H scope (compEnvC scope cl C X.env) fp (OutB X E s H scope (compEnvC scope cl C X.env) fp)) elt te) (hss : ∀ x, foldedSetIterable iter X.env x = pure x := by intro _; rfl) :
    PE X (.ListComp elt [⟨tg, iter, ifs, 0⟩] scope pos) (tLc wi g tt te (own.map (·.2))) := by
  refine ⟨fun pins s σ H Q I h => ?_⟩
  rw [eval_ListComp]
  have hfree : ∀ y ∈ scope.names, y.2 = .free → ∃ c, X.env.cells.lookup y.1 = some c := fun y hy e => by
    rcases ok.free y hy e with k | k
    · exact I.ok.has _ (.inl k)
    · exact I.ok.has _ (.inr k)
  refine wpAny_comprehension_free (use := none) rfl hss (closure_ok hfree) ok.kind (fun y hy e => by rw [ok.uniq y hy, e])
    (thn (hi.run pins s σ H _ I h) fun xv s1 hx1 => thn hx1 fun itv s2 h2 => ?_)
  obtain ⟨it, fp, tn, J, H2, e, I2, T, st2, f2, q⟩ := h2
  subst e
  refine wpAny_newObj_type (newEnv_comp ?_) (by show 0 ≤ sizeLine; decide)
  generalize hD : s2.heap.objs.size = D
  obtain ⟨W, ⟨m0, w0⟩, turn⟩ := q D (I2.hok.fresh (Nat.le_of_eq hD))
  generalize hs3 : ({ s2 with heap := s2.heap.push { cls := .type "list", data := .seq ([] : List Value).toArray } } : Shared) = s3
  have h3 : s3.heap = s2.heap.push { cls := .type "list", data := .seq ([] : List Value).toArray } := by rw [← hs3]
  have more : ∀ b o, s2.heap.get? b = some o → s3.heap.get? b = some o := fun b o e => by rw [h3]; exact Heap.get?_push_of_some _ e
  have I3 : Inv X pins σ (upd H2 D (.lst [])) s3 := by
    rw [← hs3]
    refine I2.laid (t' := s2.toks) (fun b o e => Heap.get?_push_of_some _ e) (Nat.le_of_eq hD) ⟨Nat.zero_le _, [], 0, .nil, ?_⟩
    rw [← hD]
    exact Heap.get?_push_size _ rfl
  have f3 : ∀ b ∈ fp, FpOk X pins (upd H2 D (.lst [])) b ∧ b < s3.heap.objs.size := fun b hb => by
    obtain ⟨o, e, _⟩ := T.obj _ _ st2 b hb
    have hlt := Heap.lt_size e
    refine ⟨⟨?_, (f2 b hb).2⟩, Heap.lt_size (more b o e)⟩
    rw [upd_ne (by rw [← hD]; exact Nat.ne_of_lt hlt)]
    exact (f2 b hb).1
  have st3 : tn 0 s3.heap := T.keep _ _ _ st2 fun b _ o e => more b o e
  have I4 := block_start I3 ok hN f3
  have pg := hg s3 (upd H2 D (.lst [])) s3.heap.objs.size (cellsFrom (s3.heap.objs.size + 1) scope.names (cloFrom X.env.cells scope.names [])) fp
  have pt := ht s3 (upd H2 D (.lst [])) s3.heap.objs.size (cellsFrom (s3.heap.objs.size + 1) scope.names (cloFrom X.env.cells scope.names [])) fp
  have pe := he s3 (upd H2 D (.lst [])) s3.heap.objs.size (cellsFrom (s3.heap.objs.size + 1) scope.names (cloFrom X.env.cells scope.names [])) fp
  show codeAny _ _ (.compStart (.ListComp elt [⟨tg, iter, ifs, 0⟩] scope pos) 0 (.ref it) (.ref D) (compEnvC scope (cellsFrom (s3.heap.objs.size + 1) scope.names (cloFrom X.env.cells scope.names [])) s3.heap.objs.size X.env)) (compPost (model X.prog X.w) X.A X.xe none _ (.ref D) s3.heap.objs.size) { s3 with heap := pushCells (s3.heap.push { cls := .type "dict", data := .dict #[] }) scope.names }
  generalize hce : compEnvC scope (cellsFrom (s3.heap.objs.size + 1) scope.names (cloFrom X.env.cells scope.names [])) s3.heap.objs.size X.env = ce at I4 pg pt pe ⊢
  have cL : ce.locals = s3.heap.objs.size := by subst hce; rfl
  have cF : ce.frame = X.env.frame := by subst hce; rfl
  generalize hH3 : upd H2 D (.lst []) = H3 at I3 I4 pg pt pe w0 f3
  generalize hs4 : ({ s3 with heap := pushCells (s3.heap.push { cls := .type "dict", data := .dict #[] }) scope.names } : Shared) = s4 at I4 ⊢
  have st4 : tn 0 s4.heap := T.keep _ _ _ st3 fun b _ o e => by rw [← hs4]; exact pushCells_keeps _ _ _ _ (Heap.get?_push_of_some _ e)
  have stat : ∀ {σ' : L2.St} {H' : Hp} {s' : Shared}, Inv (X.blk s3 H3 scope ce fp) [] σ' H' s' → (∀ b ∈ fp, H' b = none) → ∀ b ∈ fp, FpOk (X.blk s3 H3 scope ce fp) [] H' b := fun {σ' H' s'} I' hn b hb =>
    ⟨hn b hb, (I'.ok.exf b hb).1, I'.ok.exfs b hb, .inl hb, fun x c e => (I'.ok.exf b hb).2 x c e, fun p hp => absurd (show p ∈ ([] : List (Addr × Obj)) ++ [] from hp) (by simp)⟩
  have loop : codeAny (model X.prog X.w) X.A (.compLoop (.ListComp elt [⟨tg, iter, ifs, 0⟩] scope pos) 0 (.ref it) (.ref D) ce) (compPost (model X.prog X.w) X.A X.xe none (EP X pins σ Q) (.ref D) s3.heap.objs.size) s4 := by
    refine compLoop_any (fun n s' => ∃ i H', Inv (X.blk s3 H3 scope ce fp) [] (wipe σ (own.map (·.2))) H' s' ∧ tn i s'.heap ∧ (∀ b ∈ fp, H' b = none) ∧ W i n H') ?_ m0 ⟨0, H3, I4, st4, fun b hb => (f3 b hb).1.1, w0⟩
    rintro n s5 ⟨i, H5, I5, st5, n5, w5⟩
    rcases turn i n H5 w5 with ⟨stop, qq⟩ | ⟨go, Nx, hNx, step⟩
    · refine thnF (T.done (X.blk s3 H3 scope ce fp) rfl rfl rfl hc i [] s5 _ H5 (fun _ _ => False) I5 (stat I5 n5) st5 stop) fun r s6 ⟨hr, I6⟩ => ?_
      subst hr
      have I7 : Inv X pins σ H5 s6 := I3.call' (ch := fp) I6.os I6.base I6.hok I6.bare fun b hb => ⟨(f3 b hb).1.2.2.2.1, (f3 b hb).1.2.1, (f3 b hb).1.2.2.2.2.1, (f3 b hb).1.2.2.2.2.2⟩
      have nC : H5 s3.heap.objs.size = none := by
        have z : H5 ce.locals = none := I6.free
        rw [cL] at z; exact z
      obtain ⟨m, hn, _⟩ := I6.loc
      have hn : s6.heap.Ns ce.locals m := hn
      rw [cL] at hn
      refine ⟨m, hn, fun h'' sb => ?_⟩
      obtain ⟨g0, g1, g2, g3, g4, g5⟩ := I3.fpOk (H' := H5) (Nat.le_refl _) nC
      exact ⟨.ref D, H5, I7.turned (t' := s6.toks) (fun b o hb e => (sb.2 b hb).trans e) g0 g1 g3 g4 g5, rfl, qq⟩
    · refine thnF (T.item (X.blk s3 H3 scope ce fp) rfl rfl rfl hc i [] s5 _ H5 (fun _ _ => False) I5 (stat I5 n5) st5 go) fun r s6 ⟨u, hr, h6⟩ => ?_
      subst hr
      refine thnF h6 fun _ s7 ⟨x, H7, I7, r7, y7, st7, n7⟩ => ?_
      refine thnF (pg.run _ s7 _ H7 x u _ (I7.pinned (stat I7 n7) (T.obj _ _ st7)) r7 (step x H7 y7)) fun _ s8 ⟨σ8, H8, I8, hw8, q8⟩ => ?_
      refine thnF (pt.run _ s8 σ8 H8 _ I8 q8) fun b s9 ⟨H9, I9, q9⟩ => ?_
      have fin : ∀ {s' : Shared} {H' : Hp}, Inv (X.blk s3 H3 scope ce fp) ([] ++ pinsAt fp s7.heap) σ8 H' s' → Nx H' → ∃ m, m < n ∧ ∃ i H', Inv (X.blk s3 H3 scope ce fp) [] (wipe σ (own.map (·.2))) H' s' ∧ tn i s'.heap ∧ (∀ b ∈ fp, H' b = none) ∧ W i m H' := fun {s' H'} I' nx => by
        obtain ⟨m', hm, w'⟩ := hNx H' nx
        have pin' : ∀ b ∈ fp, ∀ o, s7.heap.get? b = some o → s'.heap.get? b = some o ∧ H' b = none := fun b hb o e =>
          let z := I'.pin (b, o) (List.mem_append_right _ (List.mem_append_right _ (mem_pinsAt hb e)))
          ⟨z.1, z.2.1⟩
        refine ⟨m', hm, i + 1, H', (I'.unpinned (pins := [])).weak (by rw [← hw8, wipe_length]) (fun j v e => ?_), T.keep _ _ _ st7 fun b hb o e => (pin' b hb o e).1, fun b hb => ?_, w'⟩
        · rw [← hw8] at e
          exact (wipe_some e).1
        · obtain ⟨o, e, _⟩ := T.obj _ _ st7 b hb
          exact (pin' b hb o e).2
      cases b with
      | false =>
        simp only [Bool.false_eq_true, if_false] at q9 ⊢
        exact fin I9 q9
      | true =>
        simp only [if_true] at q9 ⊢
        refine wpAny_mono (pe.run _ s9 σ8 H9 _ (inv_blx I9) q9) (fun z s10 hz => ?_) fun u s' xx => out_block hs hf hex hx I3 f3 cF cL xx
        obtain ⟨yv, H10, I10, r10, acc, hD10, hz10, nx⟩ := hz
        exact app_ok (X := X.blk s3 H3 scope ce fp) (inv_blk I10) hD10 hz10 r10 fun s11 I11 => fin I11 nx
  exact codeAny_compStart_list loop (T.self X.A 0 _ _ _ st4 loop)
end

/-! ### texts: readings by name -/
def rSplit : V → List V → Hp → VK → Prop := fun x xs H Q => ∃ a b, x = .str a ∧ xs = [.str b] ∧ (b.length == 0) = false ∧ a.length + 2 ≤ sizeLine ∧ rNewStrs (Txt.split a b) H Q
def rJoin (K : PySem.W.Frag) : V → List V → Hp → VK → Prop := fun x xs H Q => ∃ a p, ∃ ys : List Str, x = .str a ∧ xs = [.ref p] ∧ (SqL K H p (ys.map V.str) ∨ SqT K H p (ys.map V.str)) ∧ (ys.map (·.length)).sum + ys.length * a.length ≤ 16777216 ∧ Q (.str (Txt.join a ys)) H
section
variable {X : Cx} {o e : Expr} {to te : TE}
theorem pe_splitN {apos pos : Pos} (ho : PE X o to) (he : PE X e te) (hs : starEach [e] X.env = [(false, eval e X.env)] := by rfl) (hbase : attributeBase o "split" X.env (eval o X.env) = eval o X.env := by rfl) (hline : (apos.endLine == pos.line) = true := by rfl) :
    PE X (.Call (.Attribute o "split" apos) [e] [] pos) (tM1 rSplit to te) := pe_split ho he hs hbase hline
theorem pe_joinK (K : PySem.W.Frag) {apos pos : Pos} (ho : PE X o to) (he : PE X e te) (hK : X.K = K := by rfl) (hs : starEach [e] X.env = [(false, eval e X.env)] := by rfl) (hbase : attributeBase o "join" X.env (eval o X.env) = eval o X.env := by rfl) (hline : (apos.endLine == pos.line) = true := by rfl) :
    PE X (.Call (.Attribute o "join" apos) [e] [] pos) (tM1 (rJoin K) to te) := by
  subst hK
  exact pe_join ho he hs hbase hline
/-- the call of a comprehension's block, what it lets out told by the block -/
theorem pe_cxB {Y : Cx} {E : XK} {k j : Nat} {x : Str} {sp : Sp} {p pos : Pos} {a : Expr} {es : List Expr} {t : TA} {s : Shared} {H : Hp} {scope : Scope} {ce : Env} {fp : List Addr} (c : CalX Y.prog Y.w Y.K Y.mg Y.base k x sp) (hr : Room j Y.A) (hk : k ≤ j) (hg : Gl (blx Y s H scope ce fp (OutB Y E s H scope ce fp)) x) (ht : PA (blx Y s H scope ce fp (OutB Y E s H scope ce fp)) (a :: es) t)
    (hdb : (x == ("__debug__" : Str)) = false := by decide) (he : starEach (a :: es) ce = (false, eval a ce) :: starEach es ce := by rfl) (hpl : (backTo pos (starEach es ce)).any (·.1) = false := by rfl) :
    PE (blx Y s H scope ce fp (OutB Y E s H scope ce fp)) (.Call (.Name x p) (a :: es) [] pos) (tCallS sp (fun _ => E) t) := by
  obtain ⟨f, fd, ps, F, hm, hkp, hb⟩ := c.ex
  exact pe_callS (X := blx Y s H scope ce fp (OutB Y E s H scope ce fp)) F (hr.mono hk) hg hm hkp hb (fun σ => passB σ) ht hdb he hpl
end
section
variable {K : PySem.W.Frag} {σ : L2.St} {G B : Hp} {ta tb te tl : TE} {D : Ends} {tu tz : TS} {j : Nat} {vs : List Nat} {a b x : Str}
theorem el_split (h : Ev ta σ G (.str a)) (h2 : Ev tb σ G (.str b)) (hb : (b.length == 0) = false) (ha : a.length ≤ 90000) : EvL (tM1 rSplit ta tb) σ G ((Txt.split a b).map V.str) := fun H e Q q =>
  h H e _ fun H1 e1 => ⟨⟨a, rfl⟩, h2 H1 (e.trans e1) _ fun H2 e2 => ⟨a, b, rfl, rfl, hb, sz_of (by omega), fun p hp => q p _ (fresh_back (e1.trans e2) hp) ((e1.trans e2).trans (Ex.new hp)) upd_same⟩⟩
theorem ev_joinN {ys : List Str} (h : Ev ta σ G (.str a)) (h2 : EvL tb σ G (ys.map V.str)) (hz : (ys.map (·.length)).sum + ys.length * a.length ≤ 16777216) : Ev (tM1 (rJoin K) ta tb) σ G (.str (Txt.join a ys)) := fun H e Q q =>
  h H e _ fun H1 e1 => ⟨⟨a, rfl⟩, h2 H1 (e.trans e1) _ fun p H2 _ e2 hp => ⟨a, p, ys, rfl, rfl, .inl (sq_of hp), hz, q H2 (e1.trans e2)⟩⟩
theorem ev_join {ys : List Str} {p : Addr} (h : Ev ta σ G (.str a)) (h2 : Ev tb σ G (.ref p)) (hp : SqL K G p (ys.map V.str)) (hz : (ys.map (·.length)).sum + ys.length * a.length ≤ 16777216) : Ev (tM1 (rJoin K) ta tb) σ G (.str (Txt.join a ys)) := fun H e Q q =>
  h H e _ fun H1 e1 => ⟨⟨a, rfl⟩, h2 H1 (e.trans e1) _ fun H2 e2 => ⟨a, p, ys, rfl, rfl, .inl (ex_l ((e.trans e1).trans e2) hp), hz, q H2 (e1.trans e2)⟩⟩
/-- for sign in text -/
theorem go_forS (B : Hp) (h : Ev tl σ G (.str x)) (hB : Ex B G) (Pv : Nat → L2.St → Hp → Prop) (h0 : Pv 0 σ G)
    (hs : ∀ i c σ' G', x.cps[i]? = some c → Ex B G' → Pv i σ' G' → Go tu { D with nx := Kb B (Pv (i + 1)), ct := Kb B (Pv (i + 1)), bk := tz D } (σ'.set j (some (.str ⟨#[c]⟩))) G')
    (hd : ∀ σ' G', Ex B G' → Pv x.cps.size σ' G' → Go tz D σ' G') : Go (tSeq (tFor (iStr tl) (gName j) tu) tz) D σ G := fun H e =>
  h H e _ fun H1 e1 => ⟨x, rfl, fun i m σ H => m = x.cps.size - i ∧ i ≤ x.cps.size ∧ Kb B (Pv i) σ H, ⟨x.cps.size, by simp, Nat.zero_le _, G, e.trans e1, hB, h0⟩, by
    rintro i m σ' H' ⟨rfl, hi, G', e', b, pv⟩
    by_cases hlt : i < x.cps.size
    · refine .inr ⟨hlt, Kb B (Pv (i + 1)), fun σ2 H2 p' => ⟨x.cps.size - (i + 1), by omega, rfl, hlt, p'⟩, fun v H2 y => ?_⟩
      obtain ⟨rfl, c, hc, rfl⟩ := y
      exact hs i c σ' G' hc b pv _ e'
    · have ei : i = x.cps.size := by omega
      subst ei
      exact .inl ⟨Nat.le_refl _, hd σ' G' b pv H' e'⟩⟩
theorem rv_inS {c : Nat} {w : Str} : RV rInS (.str ⟨#[c]⟩) (.str w) G (.bl (decide (c ∈ w.cps.toList))) := fun H1 _ _ q => ⟨c, w, rfl, rfl, q H1 (Ex.refl H1)⟩
theorem rv_notInS {c : Nat} {w : Str} : RV rNotInS (.str ⟨#[c]⟩) (.str w) G (.bl (!decide (c ∈ w.cps.toList))) := fun H1 _ _ q => ⟨c, w, rfl, rfl, q H1 (Ex.refl H1)⟩
/-- a comprehension over a list, the item k of which raises -/
theorem ef_lcL {α : Type} (as : List α) (inj : α → V) (k : Nat) (d : α) {p : Addr} (h : Ev tl σ G (.ref p)) (hx : SqL K G p (as.map inj)) (hz : as.length ≤ 40000) (hw : ∀ x, wipe ((wipe σ vs).set j (some x)) vs = wipe σ vs) (hk : as[k]? = some d)
    (he : ∀ i x, i < k → as[i]? = some x → ∃ P : V → Hp → Prop, EvP te ((wipe σ vs).set j (some (inj x))) G P) (hf : EvF te ((wipe σ vs).set j (some (inj d))) G) : EvF (tLc (iList K tl) (gName j) tYes te vs) σ G := fun H0 e Q =>
  h H0 e _ fun H1 e1 => ⟨p, rfl, ⟨as.map inj, ex_l (e.trans e1) hx⟩, fun Dl hD =>
    lc_list (xs := as.map inj) (fun i H' => i ≤ k ∧ H1 Dl = none ∧ Ex H1 H' ∧ ∃ acc, H' Dl = some (.lst acc) ∧ acc.length = i) ⟨Nat.zero_le _, hD, Ex.new hD, [], upd_same, rfl⟩ (fun i H' _ q => ex_l ((e.trans e1).trans q.2.2.1) hx)
      (fun i x H' hi q => ⟨hw x, by
        obtain ⟨q1, q2, q3, acc, q4, q5⟩ := q
        have hkl := (List.getElem?_eq_some_iff.mp hk).1
        rw [List.getElem?_map] at hi
        cases ha : as[i]? with
        | none => rw [ha] at hi; cases hi
        | some y =>
          rw [ha] at hi
          cases hi
          show te ((wipe σ vs).set j (some (inj y))) H' _
          by_cases c : i = k
          · subst c
            rw [hk] at ha; cases ha
            exact hf H' ((e.trans e1).trans q3) _
          · obtain ⟨P, hP⟩ := he i y (by omega) ha
            refine hP H' ((e.trans e1).trans q3) _ fun v G' H4 g1 g2 e4 _ => ⟨acc, e4 _ _ q4, sz_lt (by omega), by omega, q2, Ex.mut (q3.trans e4) q2, acc ++ [v], upd_same, by rw [List.length_append, q5]; rfl⟩⟩)
      (fun H' q => by
        have hkl := (List.getElem?_eq_some_iff.mp hk).1
        have := q.1
        rw [List.length_map] at this
        omega)⟩
/-- a comprehension over a new list, the item k of which raises -/
theorem ef_lcNL {α : Type} (as : List α) (inj : α → V) (k : Nat) (d : α) (h : EvL tl σ G (as.map inj)) (hz : as.length ≤ 40000) (hw : ∀ x, wipe ((wipe σ vs).set j (some x)) vs = wipe σ vs) (hk : as[k]? = some d)
    (he : ∀ i x, i < k → as[i]? = some x → ∃ P : V → Hp → Prop, EvP te ((wipe σ vs).set j (some (inj x))) G P) (hf : EvF te ((wipe σ vs).set j (some (inj d))) G) : EvF (tLc (iList K tl) (gName j) tYes te vs) σ G := fun H0 e Q =>
  h H0 e _ fun p H1 _ e1 hx => ⟨p, rfl, ⟨as.map inj, sq_of hx⟩, fun Dl hD =>
    lc_list (xs := as.map inj) (fun i H' => i ≤ k ∧ H1 Dl = none ∧ Ex H1 H' ∧ ∃ acc, H' Dl = some (.lst acc) ∧ acc.length = i) ⟨Nat.zero_le _, hD, Ex.new hD, [], upd_same, rfl⟩ (fun i H' _ q => sq_of (q.2.2.1 _ _ hx))
      (fun i x H' hi q => ⟨hw x, by
        obtain ⟨q1, q2, q3, acc, q4, q5⟩ := q
        have hkl := (List.getElem?_eq_some_iff.mp hk).1
        rw [List.getElem?_map] at hi
        cases ha : as[i]? with
        | none => rw [ha] at hi; cases hi
        | some y =>
          rw [ha] at hi
          cases hi
          show te ((wipe σ vs).set j (some (inj y))) H' _
          by_cases c : i = k
          · subst c
            rw [hk] at ha; cases ha
            exact hf H' ((e.trans e1).trans q3) _
          · obtain ⟨P, hP⟩ := he i y (by omega) ha
            refine hP H' ((e.trans e1).trans q3) _ fun v G' H4 g1 g2 e4 _ => ⟨acc, e4 _ _ q4, sz_lt (by omega), by omega, q2, Ex.mut (q3.trans e4) q2, acc ++ [v], upd_same, by rw [List.length_append, q5]; rfl⟩⟩)
      (fun H' q => by
        have hkl := (List.getElem?_eq_some_iff.mp hk).1
        have := q.1
        rw [List.length_map] at this
        omega)⟩
/-- [e for x in xs], xs a new list -/
theorem el_lcNA {α : Type} (as : List α) (inj : α → V) (g : α → V) (h : EvL tl σ G (as.map inj)) (hz : as.length ≤ 40000) (hw : ∀ x, wipe ((wipe σ vs).set j (some x)) vs = wipe σ vs) (he : ∀ x, x ∈ as → Ev te ((wipe σ vs).set j (some (inj x))) G (g x)) : EvL (tLc (iList K tl) (gName j) tYes te vs) σ G (as.map g) := fun H0 e Q q =>
  h H0 e _ fun p H1 hp e1 h1 => ⟨p, rfl, ⟨as.map inj, sq_of h1⟩, fun Dl hD =>
    lc_list (xs := as.map inj) (fun i H' => H1 Dl = none ∧ Ex H1 H' ∧ H' Dl = some (.lst ((as.take i).map g))) ⟨hD, Ex.new hD, upd_same⟩ (fun i H' _ q => sq_of (q.2.1 _ _ h1))
      (fun i x H' hi q => ⟨hw x, by
        obtain ⟨q2, q3, q4⟩ := q
        rw [List.getElem?_map] at hi
        cases ha : as[i]? with
        | none => rw [ha] at hi; cases hi
        | some y =>
          rw [ha] at hi
          cases hi
          have hlt := (List.getElem?_eq_some_iff.mp ha).1
          show te ((wipe σ vs).set j (some (inj y))) H' _
          refine he y (List.mem_of_getElem? ha) H' ((e.trans e1).trans q3) _ fun H4 e4 => ⟨_, e4 _ _ q4, sz_lt (by rw [List.length_map, List.length_take]; omega), q2, Ex.mut (q3.trans e4) q2, ?_⟩
          rw [upd_same, List.take_add_one, ha, List.map_append]; rfl⟩)
      (fun H' r => by
        obtain ⟨q2, q3, q4⟩ := r
        rw [List.length_map, List.take_length] at q4
        exact q Dl H' (fresh_back e1 q2) (e1.trans q3) q4)⟩
/-- [.. for sign in text] -/
theorem el_lcS (g : Nat → V) (h : Ev tl σ G (.str x)) (hz : x.cps.size ≤ 40000) (hw : ∀ x, wipe ((wipe σ vs).set j (some x)) vs = wipe σ vs) (he : ∀ c, Ev te ((wipe σ vs).set j (some (.str ⟨#[c]⟩))) G (g c)) : EvL (tLc (iStr tl) (gName j) tYes te vs) σ G (x.cps.toList.map g) := fun H0 e Q q =>
  h H0 e _ fun H1 e1 => ⟨x, rfl, fun Dl hD => by
    refine ⟨fun i m H => m = x.cps.size - i ∧ i ≤ x.cps.size ∧ H1 Dl = none ∧ Ex H1 H ∧ H Dl = some (.lst ((x.cps.toList.take i).map g)), ⟨x.cps.size, by simp, Nat.zero_le _, hD, Ex.new hD, upd_same⟩, ?_⟩
    rintro i m H ⟨rfl, hi, q2, q3, q4⟩
    by_cases hlt : i < x.cps.size
    · refine .inr ⟨hlt, fun H2 => H1 Dl = none ∧ Ex H1 H2 ∧ H2 Dl = some (.lst ((x.cps.toList.take (i + 1)).map g)), fun H2 p' => ⟨x.cps.size - (i + 1), by omega, rfl, hlt, p'⟩, fun v H2 y => ?_⟩
      obtain ⟨rfl, c, hc, rfl⟩ := y
      refine ⟨hw _, ?_⟩
      show te ((wipe σ vs).set j (some (.str ⟨#[c]⟩))) H2 _
      refine he c H2 ((e.trans e1).trans q3) _ fun H3 e3 => ⟨_, e3 _ _ q4, sz_lt (by rw [List.length_map, List.length_take]; omega), q2, Ex.mut (q3.trans e3) q2, ?_⟩
      have hc2 : x.cps.toList[i]? = some c := by rw [Array.getElem?_toList]; exact hc
      rw [upd_same, List.take_add_one, hc2, List.map_append]; rfl
    · have ei : i = x.cps.size := by omega
      subst ei
      refine .inl ⟨Nat.le_refl _, ?_⟩
      have : x.cps.toList.take x.cps.size = x.cps.toList := List.take_of_length_le (by simp)
      rw [this] at q4
      exact q Dl H (fresh_back e1 q2) (e1.trans q3) q4⟩
theorem ev_intZ {n : Int} (h : Ev ta σ G (.str a)) (hn : PySem.intText? a = some n) (hl : a.length ≤ 640) : Ev (tCB rIntZ (tCons ta tNil)) σ G (.int n) := fun H e Q q => h H e _ fun H1 e1 => ⟨a, n, rfl, hn, hl, q H1 e1⟩
end

/-! ### numbers and gates, written -/
def figs : List Nat := ("0123456789" : Str).cps.toList
def lets : List Nat := ("abcdefghijklmnopqrstuvwxyz" : Str).cps.toList
def allIn (w : List Nat) (z : Str) : Bool := z.cps.toList.all fun c => decide (c ∈ w)
def numM (z : Str) : Option Int := if allIn figs z = true ∧ z ≠ "" ∧ z.length ≤ 9 ∧ ¬ (z.cps.toList.head? = some 48 ∧ 1 < z.length) then intText? z else none
theorem figs_digit {c : Nat} (h : c ∈ figs) : 48 ≤ c ∧ c ≤ 57 := by
  have e : figs = [48, 49, 50, 51, 52, 53, 54, 55, 56, 57] := by decide +kernel
  rw [e] at h
  simp at h
  omega
theorem digit_figs {c : Nat} (h : 48 ≤ c ∧ c ≤ 57) : c ∈ figs := by
  have e : figs = [48, 49, 50, 51, 52, 53, 54, 55, 56, 57] := by decide +kernel
  rw [e]
  simp
  omega
theorem str_empty {z : Str} : z = "" ↔ z.cps.toList = [] := by
  constructor
  · rintro rfl; decide +kernel
  · intro h
    exact TL.ext_tl (by rw [show TL.tl z = [] from h]; decide +kernel)
theorem num_int {z : Str} (h : allIn figs z = true) (h1 : z ≠ "") (h2 : z.length ≤ 9) : ∃ n : Nat, intText? z = some (n : Int) := by
  have e := SX.int_S (a := z.cps.toList) (by
    rw [List.all_eq_true]
    intro c hc
    have := figs_digit (of_decide_eq_true (List.all_eq_true.mp h c hc))
    simp [this.1, this.2]) (fun e => h1 (str_empty.mpr e)) (by
    have := TL.len_tl z
    unfold TL.tl at this
    omega)
  rw [SX.S_tl] at e
  exact ⟨_, e⟩
theorem numM_nn {z : Str} {n : Int} (h : numM z = some n) : 0 ≤ n := by
  unfold numM at h
  split at h
  · rename_i c
    obtain ⟨k, hk⟩ := num_int c.1 c.2.1 c.2.2.1
    rw [hk] at h; cases h; omega
  · cases h
theorem numM_none {z : Str} (h : ¬ (allIn figs z = true ∧ z ≠ "" ∧ z.length ≤ 9 ∧ ¬ (z.cps.toList.head? = some 48 ∧ 1 < z.length))) : numM z = none := if_neg h

/-! ### gates and plans, read -/
def numsM : List Str → Option (List Int)
  | [] => some []
  | z :: r => match numM z, numsM r with
    | some n, some ns => some (n :: ns)
    | _, _ => none
theorem numsM_some : ∀ {zs : List Str} {ns : List Int}, numsM zs = some ns → zs.map (fun z => (numM z).getD 0) = ns ∧ ∀ z ∈ zs, ∃ n, numM z = some n
  | [], ns, h => by rw [numsM] at h; cases h; exact ⟨rfl, fun z hz => (by cases hz)⟩
  | z :: r, ns, h => by
    rw [numsM] at h
    cases h1 : numM z with
    | none => rw [h1] at h; cases h
    | some n =>
      rw [h1] at h
      cases h2 : numsM r with
      | none => rw [h2] at h; cases h
      | some ms =>
        rw [h2] at h
        cases h
        obtain ⟨q1, q2⟩ := numsM_some h2
        refine ⟨by rw [List.map_cons, q1, h1]; rfl, fun y hy => ?_⟩
        rcases List.mem_cons.mp hy with rfl | hy
        · exact ⟨n, h1⟩
        · exact q2 y hy
theorem numsM_none : ∀ {zs : List Str}, numsM zs = none → ∃ (k : Nat) (z : Str), zs[k]? = some z ∧ numM z = none ∧ ∀ i x, i < k → zs[i]? = some x → ∃ n, numM x = some n
  | [], h => by rw [numsM] at h; cases h
  | z :: r, h => by
    rw [numsM] at h
    cases h1 : numM z with
    | none => exact ⟨0, z, rfl, h1, fun i x hi => by omega⟩
    | some n =>
      rw [h1] at h
      cases h2 : numsM r with
      | some ms => rw [h2] at h; cases h
      | none =>
        obtain ⟨k, y, q1, q2, q3⟩ := numsM_none h2
        refine ⟨k + 1, y, q1, q2, fun i x hi hx => ?_⟩
        cases i with
        | zero => cases hx; exact ⟨n, h1⟩
        | succ i => exact q3 i x (by omega) hx
theorem numsM_len {zs : List Str} {ns : List Int} (h : numsM zs = some ns) : ns.length = zs.length := by
  rw [← (numsM_some h).1, List.length_map]
/-- the words of a gate: its kind, its sources, by, its delay -/
def gateW (w0 : Str) (mid : List Str) (b d : Str) : Option Gate := if w0 ≠ "" ∧ b = "by" ∧ allIn lets w0 = true then (match numsM mid, numM d with
    | some ss, some n => some ⟨w0, ss, n⟩
    | _, _ => none) else none
def gateL (ws : List Str) : Option Gate := if 3 ≤ ws.length then gateW (ws.getD 0 "") ((ws.drop 1).take (ws.length - 3)) (ws.getD (ws.length - 2) "") (ws.getD (ws.length - 1) "") else none
def gateM (row : Str) : Option Gate := gateL (Txt.split row " ")
def gateR (row : Str) : Except Err Gate := match gateM row with
  | some g => .ok g
  | none => .error .text
theorem word_len {a b t : Str} (h : t ∈ Txt.split a b) : t.length ≤ a.length := by
  have := PySem.join_mem_le b (Txt.split a b) t h
  rwa [StrLaws.join_split] at this
theorem split_many (a b : Str) : (Txt.split a b).length ≤ a.length + 2 := PyProof.Rows.split_le a b
theorem at_back {xs : List V} {k : Nat} {v : V} (hk : 0 < k) (hl : k ≤ xs.length) (h : xs[xs.length - k]? = some v) : atI xs (-(k : Int)) = some v := by
  unfold atI
  have e : ixN xs.length (-(k : Int)) = some (xs.length - k) := by
    unfold ixN
    rw [if_neg (by omega), if_pos (by omega)]
    congr 1
    omega
  rw [e]
  exact h
theorem cutV_mid {xs : List V} (h : 3 ≤ xs.length) : cutV xs (some 1) (some (-2)) = (xs.drop 1).take (xs.length - 3) := by
  unfold cutV
  have e1 : HT.sIx xs.length 0 (some 1) = 1 := by
    rw [show (1 : Int) = ((1 : Nat) : Int) from rfl, HT.sIx_nat]; omega
  have e2 : HT.sIx xs.length xs.length (some (-2)) = xs.length - 2 := by
    show (if (-2 : Int) < 0 then ((-2 : Int) + (xs.length : Int)).toNat else min (-2 : Int).toNat xs.length) = _
    rw [if_pos (by decide)]
    omega
  rw [e1, e2]
  congr 1
section
variable {K : PySem.W.Frag} {σ : L2.St} {G : Hp} {ta te : TE} {tA : TA} {P : V → Hp → Prop}
theorem eaf_tlP (h : EvP te σ G P) (h2 : ∀ v G', Ex G G' → P v G' → EvAF tA σ G') : EvAF (tCons te tA) σ G := fun H e Q => h H e _ fun v G' H' g1 g2 e1 p => h2 v G' g1 p H' g2 _
theorem ef_tup (h : EvAF tA σ G) : EvF (tTup tA) σ G := fun H e Q => h H e _
end
theorem split_ne (a : Str) : Txt.split a "\n" ≠ [] := fun h => by
  have e := StrLaws.join_split a "\n"
  rw [h] at e
  have e0 : a = "" := e.symm.trans (by decide +kernel)
  subst e0
  exact absurd h (by decide +kernel)
def gatesM : List Str → Option (List Gate)
  | [] => some []
  | z :: r => match gateM z, gatesM r with
    | some n, some ns => some (n :: ns)
    | _, _ => none
def gateE : Gate := ⟨"", [], 0⟩
theorem gatesM_some : ∀ {zs : List Str} {ns : List Gate}, gatesM zs = some ns → zs.map (fun z => (gateM z).getD gateE) = ns ∧ ∀ z ∈ zs, ∃ n, gateM z = some n
  | [], ns, h => by rw [gatesM] at h; cases h; exact ⟨rfl, fun z hz => (by cases hz)⟩
  | z :: r, ns, h => by
    rw [gatesM] at h
    cases h1 : gateM z with
    | none => rw [h1] at h; cases h
    | some n =>
      rw [h1] at h
      cases h2 : gatesM r with
      | none => rw [h2] at h; cases h
      | some ms =>
        rw [h2] at h
        cases h
        obtain ⟨q1, q2⟩ := gatesM_some h2
        refine ⟨by rw [List.map_cons, q1, h1]; rfl, fun y hy => ?_⟩
        rcases List.mem_cons.mp hy with rfl | hy
        · exact ⟨n, h1⟩
        · exact q2 y hy
theorem gatesM_none : ∀ {zs : List Str}, gatesM zs = none → ∃ (k : Nat) (z : Str), zs[k]? = some z ∧ gateM z = none ∧ ∀ i x, i < k → zs[i]? = some x → ∃ n, gateM x = some n
  | [], h => by rw [gatesM] at h; cases h
  | z :: r, h => by
    rw [gatesM] at h
    cases h1 : gateM z with
    | none => exact ⟨0, z, rfl, h1, fun i x hi => by omega⟩
    | some n =>
      rw [h1] at h
      cases h2 : gatesM r with
      | some ms => rw [h2] at h; cases h
      | none =>
        obtain ⟨k, y, q1, q2, q3⟩ := gatesM_none h2
        refine ⟨k + 1, y, q1, q2, fun i x hi hx => ?_⟩
        cases i with
        | zero => cases hx; exact ⟨n, h1⟩
        | succ i => exact q3 i x (by omega) hx
/-- the plan that rows write -/
def parseL (rows : List Str) : Option Plan := match rows with
  | [] => none
  | r0 :: rest => if Txt.slice r0 none (some 3) = "in " then (match numM (Txt.slice r0 (some 3) none), gatesM rest with
    | some m, some gs => some ⟨m, gs⟩
    | _, _ => none) else none
def parseM (z : Str) : Option Plan := parseL (Txt.split z "\n")
def readR (z : Str) : Except Err Plan := match parseM z with
  | none => .error .text
  | some p => orErr (errPlan p) p
def GOpt (K : PySem.W.Frag) (H : Hp) (v : V) : Option Gate → Prop
  | none => v = .non
  | some g => GateAt K H v g
theorem GOpt.mono {K : PySem.W.Frag} {H H' : Hp} {v : V} (e : Ex H H') : ∀ {o : Option Gate}, GOpt K H v o → GOpt K H' v o
  | none, h => h
  | some _, h => GateAt.mono e h
theorem GOpt.put {K : PySem.W.Frag} {H : Hp} {v : V} {l : Addr} {ys : List V} {o' : HO} (hl : H l = some (.lst ys)) : ∀ {o : Option Gate}, GOpt K H v o → GOpt K (upd H l o') v o
  | none, h => h
  | some _, h => GateAt.put hl h
theorem lasts_gopt (K : PySem.W.Frag) : Lasts (GOpt K) := ⟨fun _ _ _ _ e h => h.mono e, fun _ _ _ _ _ _ hl h => h.put hl⟩
theorem cutV_nat2 {xs : List V} {k : Nat} (h1 : 1 ≤ k) : cutV xs (some 1) (some (k : Int)) = (xs.drop 1).take (k - 1) := by
  have := cut_nat (xs := xs) (a := 1) (b := k) h1
  exact this

/-! ### None in a list of gates and Nones -/
section
variable {X : Cx}
theorem o_inD (K : PySem.W.Frag) (hu : X.A.units + 65 < cLine) (h : X.K = K := by rfl) : OpR X (compareOp .In) (rInD K) := h ▸ op_inD hu
theorem un65 {k : Nat} {A : Around} (r : Room k A) : A.units + 65 < cLine := by have := r.un; omega
end
def optD : Option Gate → PyData
  | none => .none
  | some g => gateD g
theorem GOpt.dp {K : PySem.W.Frag} {H : Hp} {v : V} : ∀ {o : Option Gate}, GOpt K H v o → Dp K H v (optD o)
  | none, h => by
    have h : v = .non := h
    subst h; exact .non
  | some _, h => GateAt.dp h
theorem optD_shaped {os : List (Option Gate)} (h : ∀ o ∈ os, ∀ g, o = some g → PyData.strOk g.kind = true) : SeqAt.shaped (.list (os.map optD)) = true := by
  have hd : ∀ o ∈ os, (optD o).depth ≤ 3 := fun o _ => by
    cases o with
    | none => simp [optD, PyData.depth]
    | some g => exact gateD_deep g
  have hl : ∀ o ∈ os, (optD o).canLay0 = true := fun o ho => by
    cases o with
    | none => simp [optD, PyData.canLay0]
    | some g => exact gateD_lay (h _ ho g rfl)
  unfold SeqAt.shaped
  have := depthAll_map optD 3 os hd
  rw [PyData.canLay0, canLayAll_map _ _ hl]
  simp only [PyData.depth]
  simp
  omega
theorem any_optD (os : List (Option Gate)) : ((os.map optD).any fun z => PyData.eqv z .none) = os.any Option.isNone := by
  rw [List.any_map]
  congr 1
  funext o
  cases o with
  | none => simp [optD, PyData.eqv]
  | some g => simp [optD, gateD, PyData.eqv]
theorem rv_inD {K : PySem.W.Frag} {G : Hp} {p : Addr} {ws : List V} {os : List (Option Gate)} (h : SqL K G p ws) (hR : Rows (GOpt K G) ws os) (hs : ∀ o ∈ os, ∀ g, o = some g → PyData.strOk g.kind = true) : RV (rInD K) .non (.ref p) G (.bl (os.any Option.isNone)) := fun H1 e _ q =>
  ⟨.none, os.map optD, .non, .lst (ex_l e h) (dpAll_rows optD (fun _ _ r => GOpt.dp r) (rows_imp hR fun _ _ r => r.mono e)), by simp [SeqAt.shaped, PyData.canLay0, PyData.depth], optD_shaped hs, by rw [any_optD]; exact q H1 (Ex.refl H1)⟩
theorem lets_str {z : Str} (h : allIn lets z = true) : PyData.strOk z = true := by
  unfold PyData.strOk
  rw [Array.all_eq_true]
  intro i hi
  have hm : z.cps[i] ∈ lets := of_decide_eq_true (List.all_eq_true.mp h _ (by simp))
  have hl : lets.all (fun c => decide (c < 0x110000)) = true := by decide +kernel
  exact List.all_eq_true.mp hl _ hm
theorem gateM_str {z : Str} {g : Gate} (h : gateM z = some g) : PyData.strOk g.kind = true ∧ g.srcs.length ≤ z.length ∧ (∀ s ∈ g.srcs, 0 ≤ s) := by
  have hmany := split_many z " "
  unfold gateM gateL at h
  split at h
  · rename_i h3
    unfold gateW at h
    split at h
    · rename_i hc
      cases hm : numsM ((List.drop 1 (Txt.split z " ")).take ((Txt.split z " ").length - 3)) with
      | none => rw [hm] at h; cases h
      | some ss =>
        rw [hm] at h
        cases hd : numM ((Txt.split z " ").getD ((Txt.split z " ").length - 1) "") with
        | none => rw [hd] at h; cases h
        | some n =>
          rw [hd] at h
          cases h
          refine ⟨lets_str hc.2.2, ?_, fun s hs => ?_⟩
          · have := numsM_len hm
            rw [List.length_take, List.length_drop] at this
            show ss.length ≤ _
            omega
          · obtain ⟨q1, q2⟩ := numsM_some hm
            have hs : s ∈ ss := hs
            rw [← q1] at hs
            obtain ⟨x, hx, rfl⟩ := List.mem_map.mp hs
            obtain ⟨k, hk⟩ := q2 x hx
            rw [hk]
            exact numM_nn hk
    · cases h
  · cases h
theorem gatesM_any {zs : List Str} : (zs.map gateM).any Option.isNone = (gatesM zs).isNone := by
  induction zs with
  | nil => rfl
  | cons z r ih =>
    rw [List.map_cons, List.any_cons, ih, gatesM]
    cases gateM z <;> cases gatesM r <;> rfl
theorem gatesM_map {zs : List Str} {gs : List Gate} (h : gatesM zs = some gs) : zs.map gateM = gs.map some := by
  obtain ⟨q1, q2⟩ := gatesM_some h
  rw [← q1, List.map_map]
  refine List.map_congr_left fun z hz => ?_
  obtain ⟨g, hg⟩ := q2 z hz
  simp [hg]

/-! ### numbers, gates and plans as texts -/
def numT (n : Int) : Str := Str.ofString (toString n)
theorem numL_head {n : Nat} (h : 10 ≤ n) : ∃ c r, TL.numL n = c :: r ∧ c ≠ 48 ∧ r ≠ [] := by
  induction n using Nat.strongRecOn with
  | _ n ih =>
    rw [TL.numL_step h]
    by_cases c : 10 ≤ n / 10
    · obtain ⟨d, r, h1, h2, _⟩ := ih (n / 10) (by omega) c
      exact ⟨d, r ++ [48 + n % 10], by rw [h1]; rfl, h2, by simp⟩
    · rw [TL.numL_lt (by omega)]
      exact ⟨48 + n / 10, [48 + n % 10], rfl, by omega, by simp⟩
theorem tl_numT {n : Nat} : (numT (n : Int)).cps.toList = TL.numL n := TL.tl_num n
theorem numM_numT {n : Int} (h0 : 0 ≤ n) (h1 : n < 10 ^ 9) : numM (numT n) = some n := by
  obtain ⟨k, rfl⟩ : ∃ k : Nat, n = (k : Int) := ⟨n.toNat, by omega⟩
  have hk : k < 10 ^ 9 := by omega
  have ht := tl_numT (n := k)
  have hlen : (numT (k : Int)).length = (TL.numL k).length := by rw [TL.len_tl]; exact congrArg List.length ht
  have hl9 := TL.numL_len (n := k) (k := 9) (by decide) hk
  unfold numM
  rw [if_pos]
  · exact TL.int_num (by omega)
  · refine ⟨List.all_eq_true.mpr fun c hc => ?_, fun e => ?_, by omega, fun ⟨q1, q2⟩ => ?_⟩
    · rw [ht] at hc
      exact decide_eq_true (digit_figs (TL.numL_digits k c hc))
    · have := str_empty.mp e
      rw [ht] at this
      exact TL.numL_ne k this
    · rw [ht] at q1
      by_cases c : 10 ≤ k
      · obtain ⟨d, r, e1, e2, _⟩ := numL_head c
        rw [e1] at q1
        exact e2 (by simpa using q1)
      · rw [hlen, TL.numL_lt (by omega)] at q2
        simp at q2
theorem numT_free {n : Int} (h0 : 0 ≤ n) {s : Nat} (h : s < 48 ∨ 57 < s) : s ∉ (numT n).cps.toList := by
  obtain ⟨k, rfl⟩ : ∃ k : Nat, n = (k : Int) := ⟨n.toNat, by omega⟩
  rw [tl_numT]
  exact TL.numL_free h
theorem numT_len {n : Int} (h0 : 0 ≤ n) (h1 : n < 10 ^ 9) : (numT n).length ≤ 9 := by
  obtain ⟨k, rfl⟩ : ∃ k : Nat, n = (k : Int) := ⟨n.toNat, by omega⟩
  rw [TL.len_tl]
  show (numT (k : Int)).cps.toList.length ≤ 9
  rw [tl_numT]
  exact TL.numL_len (by decide) (by omega)
/-- the words of a gate's row -/
def wordsG (g : Gate) : List Str := [g.kind] ++ g.srcs.map numT ++ [("by" : Str), numT g.delay]
def rowG (g : Gate) : Str := Txt.join " " (wordsG g)
def rowsOf (p : Plan) : List Str := ("in " ++ numT p.many) :: p.gates.map rowG
theorem kinds9_lets {z : Str} {i : Int} (h : least z = some i) : allIn lets z = true ∧ z ≠ "" ∧ z.length ≤ 6 := by
  obtain ⟨k, hk, hkz⟩ := least_at9 h
  rw [hkz]
  have : ∀ i : Fin 9, allIn lets (kinds9.getD i.val "") = true ∧ kinds9.getD i.val "" ≠ "" ∧ (kinds9.getD i.val "").length ≤ 6 := by decide +kernel
  exact this ⟨k, hk⟩
theorem lets_free {z : Str} (h : allIn lets z = true) {s : Nat} (hs : s ∉ lets) : s ∉ z.cps.toList := fun hm => hs (of_decide_eq_true (List.all_eq_true.mp h s hm))
theorem words_split {g : Gate} (hk : allIn lets g.kind = true) (hs : ∀ s ∈ g.srcs, 0 ≤ s) (hd : 0 ≤ g.delay) : Txt.split (rowG g) " " = wordsG g := by
  have ey : TL.tl (" " : Str) = 32 :: [] := by decide +kernel
  refine TL.split_join ey (by decide +kernel) (by unfold wordsG; simp) fun p hp => ?_
  unfold wordsG at hp
  rcases List.mem_append.mp hp with hp | hp
  · rcases List.mem_append.mp hp with hp | hp
    · rw [List.mem_singleton.mp hp]
      exact lets_free hk (by decide +kernel)
    · obtain ⟨s, hs', rfl⟩ := List.mem_map.mp hp
      exact numT_free (hs s hs') (by decide)
  · rcases List.mem_cons.mp hp with rfl | hp
    · decide +kernel
    · rw [List.mem_singleton.mp hp]
      exact numT_free hd (by decide)
theorem numsM_map : ∀ {ss : List Int}, (∀ s ∈ ss, 0 ≤ s ∧ s < 10 ^ 9) → numsM (ss.map numT) = some ss
  | [], _ => rfl
  | s :: r, h => by
    rw [List.map_cons, numsM, numM_numT (h s List.mem_cons_self).1 (h s List.mem_cons_self).2, numsM_map fun x hx => h x (List.mem_cons_of_mem _ hx)]
theorem gateM_row {g : Gate} (hk : allIn lets g.kind = true) (hk0 : g.kind ≠ "") (hs : ∀ s ∈ g.srcs, 0 ≤ s ∧ s < 10 ^ 9) (hd : 0 ≤ g.delay ∧ g.delay < 10 ^ 9) : gateM (rowG g) = some g := by
  unfold gateM
  rw [words_split hk (fun s h => (hs s h).1) hd.1]
  have hl : (wordsG g).length = g.srcs.length + 3 := by unfold wordsG; simp
  unfold gateL
  rw [if_pos (by omega), hl]
  have e0 : (wordsG g).getD 0 "" = g.kind := rfl
  have e1 : ((wordsG g).drop 1).take (g.srcs.length + 3 - 3) = g.srcs.map numT := by
    show (g.srcs.map numT ++ [("by" : Str), numT g.delay]).take (g.srcs.length + 3 - 3) = _
    rw [List.take_left' (by rw [List.length_map]; omega)]
  have e2 : (wordsG g).getD (g.srcs.length + 3 - 2) "" = "by" := by
    unfold wordsG
    rw [List.getD_eq_getElem?_getD, List.getElem?_append_right (by simp)]
    simp
  have e3 : (wordsG g).getD (g.srcs.length + 3 - 1) "" = numT g.delay := by
    unfold wordsG
    rw [List.getD_eq_getElem?_getD, List.getElem?_append_right (by simp)]
    simp
  rw [e0, e1, e2, e3]
  unfold gateW
  rw [if_pos ⟨hk0, rfl, hk⟩, numsM_map hs, numM_numT hd.1 hd.2]
theorem mem_joinL {S : List Nat} {c : Nat} : ∀ {ps : List (List Nat)}, c ∈ TL.joinL S ps → c ∈ S ∨ ∃ p ∈ ps, c ∈ p
  | [], h => by unfold TL.joinL at h; cases h
  | [p], h => by unfold TL.joinL at h; exact .inr ⟨p, List.mem_cons_self, h⟩
  | p :: q :: r, h => by
    unfold TL.joinL at h
    rcases List.mem_append.mp h with h | h
    · exact .inr ⟨p, List.mem_cons_self, h⟩
    · rcases List.mem_append.mp h with h | h
      · exact .inl h
      · rcases mem_joinL h with h | ⟨x, hx, h⟩
        · exact .inl h
        · exact .inr ⟨x, List.mem_cons_of_mem _ hx, h⟩
theorem tl_joinT (y : Str) (ps : List Str) : (Txt.join y ps).cps.toList = TL.joinL y.cps.toList (ps.map TL.tl) := by
  rw [TL.join_eq]; exact TL.tl_join y ps
/-- no line end in it -/
def OneRow (z : Str) : Prop := 10 ∉ z.cps.toList
theorem oneRow_row {g : Gate} (hk : allIn lets g.kind = true) (hs : ∀ s ∈ g.srcs, 0 ≤ s) (hd : 0 ≤ g.delay) : OneRow (rowG g) := fun h => by
  unfold rowG at h
  rw [tl_joinT] at h
  rcases mem_joinL h with h | ⟨p, hp, h⟩
  · exact absurd h (by decide +kernel)
  · obtain ⟨x, hx, rfl⟩ := List.mem_map.mp hp
    unfold wordsG at hx
    rcases List.mem_append.mp hx with hx | hx
    · rcases List.mem_append.mp hx with hx | hx
      · rw [List.mem_singleton.mp hx] at h
        exact lets_free hk (by decide +kernel) h
      · obtain ⟨s, hs', rfl⟩ := List.mem_map.mp hx
        exact numT_free (hs s hs') (by decide) h
    · rcases List.mem_cons.mp hx with rfl | hx
      · exact absurd h (by decide +kernel)
      · rw [List.mem_singleton.mp hx] at h
        exact numT_free hd (by decide) h
theorem oneRow_head {m : Int} (h : 0 ≤ m) : OneRow ("in " ++ numT m) := fun hm => by
  have e : ("in " ++ numT m : Str).cps.toList = ("in " : Str).cps.toList ++ (numT m).cps.toList := TL.tl_append _ _
  rw [e] at hm
  rcases List.mem_append.mp hm with q | q
  · exact absurd q (by decide +kernel)
  · exact numT_free h (by decide) q
theorem parse_join {rows : List Str} (hne : rows ≠ []) (h : ∀ r ∈ rows, OneRow r) : parseM (Txt.join "\n" rows) = parseL rows := by
  have ey : TL.tl ("\n" : Str) = 10 :: [] := by decide +kernel
  unfold parseM
  rw [TL.split_join ey (by decide +kernel) hne h]
theorem slice_head (t : Str) : Txt.slice ("in " ++ t) none (some 3) = "in " ∧ Txt.slice ("in " ++ t) (some 3) none = t := by
  have e : ("in " ++ t : Str) = SX.S (("in " : Str).cps.toList ++ t.cps.toList) := by
    rw [← SX.S_cat, SX.S_tl, SX.S_tl]
  have hl : (3 : Int) = ((("in " : Str).cps.toList.length : Nat) : Int) := by decide +kernel
  rw [e, SX.to_app _ _ hl, SX.from_app _ _ hl, SX.S_tl, SX.S_tl]
  exact ⟨rfl, rfl⟩
/-- a gate that can be written and read -/
structure RowOk (g : Gate) : Prop where
  lets : allIn lets g.kind = true
  ne : g.kind ≠ ""
  srcs : ∀ s ∈ g.srcs, 0 ≤ s ∧ s < 10 ^ 9
  delay : 0 ≤ g.delay ∧ g.delay < 10 ^ 9
theorem rowOk_of {g : Gate} {lines : Int} (h : errGate g lines = none) (hl : lines ≤ 10 ^ 6) : RowOk g := by
  obtain ⟨⟨lo, hi, hw, _⟩, hs, hd⟩ := gate_ok h
  unfold wantsM at hw
  cases e : least g.kind with
  | none => rw [e] at hw; cases hw
  | some i =>
    obtain ⟨h1, h2, _⟩ := kinds9_lets e
    exact ⟨h1, h2, fun s hs' => by have := hs s hs'; omega, by omega⟩
theorem gatesM_rows : ∀ {gs : List Gate}, (∀ g ∈ gs, RowOk g) → gatesM (gs.map rowG) = some gs
  | [], _ => rfl
  | g :: r, h => by
    have k := h g List.mem_cons_self
    rw [List.map_cons, gatesM, gateM_row k.lets k.ne k.srcs k.delay, gatesM_rows fun x hx => h x (List.mem_cons_of_mem _ hx)]
theorem valid_rows {p : Plan} (v : Valid p) : ∀ g ∈ p.gates, RowOk g := fun g hg => by
  have := v.m60; have := v.n200
  exact rowOk_of (v.gate g hg) (by unfold Plan.lines; omega)
theorem oneRow_of {g : Gate} (k : RowOk g) : OneRow (rowG g) := oneRow_row k.lets (fun s h => (k.srcs s h).1) k.delay.1
theorem rows_one {p : Plan} (v : Valid p) : ∀ r ∈ rowsOf p, OneRow r := fun r hr => by
  rcases List.mem_cons.mp hr with rfl | hr
  · exact oneRow_head v.m0
  · obtain ⟨g, hg, rfl⟩ := List.mem_map.mp hr
    exact oneRow_of (valid_rows v g hg)
theorem parse_rows {p : Plan} (v : Valid p) : parseM (Txt.join "\n" (rowsOf p)) = some p := by
  rw [parse_join (by unfold rowsOf; simp) (rows_one v)]
  obtain ⟨s1, s2⟩ := slice_head (numT p.many)
  have := v.m60
  unfold rowsOf
  rw [parseL]
  rw [s1, s2, if_pos rfl, numM_numT v.m0 (by omega), gatesM_rows (valid_rows v)]
theorem read_rows {p : Plan} (v : Valid p) : readR (Txt.join "\n" (rowsOf p)) = .ok p := by
  unfold readR
  rw [parse_rows v]
  show orErr (errPlan p) p = _
  rw [valid_iff.mpr v]; rfl
theorem joinL_flat (S : List Nat) : ∀ (p : List Nat) (rest : List (List Nat)), TL.joinL S (p :: rest) = p ++ (rest.map (S ++ ·)).flatten
  | p, [] => by unfold TL.joinL; simp
  | p, q :: r => by
    rw [TL.joinL, joinL_flat S q r, List.map_cons, List.flatten_cons, List.append_assoc]
/-- the law's way of writing a row -/
def accS (z : Str) (ss : List Int) : Str := ss.foldl (fun r s => r ++ " " ++ numT s) z
theorem accS_snoc (z : Str) (ss : List Int) (s : Int) : accS z (ss ++ [s]) = accS z ss ++ " " ++ numT s := by unfold accS; rw [List.foldl_append]; rfl
theorem tl_accS : ∀ (ss : List Int) (z : Str), (accS z ss).cps.toList = z.cps.toList ++ ((ss.map fun s => (numT s).cps.toList).map ((" " : Str).cps.toList ++ ·)).flatten
  | [], z => by simp [accS]
  | s :: r, z => by
    have ih := tl_accS r (z ++ " " ++ numT s)
    have e : accS z (s :: r) = accS (z ++ " " ++ numT s) r := rfl
    have e2 : (z ++ " " ++ numT s : Str).cps.toList = z.cps.toList ++ (" " : Str).cps.toList ++ (numT s).cps.toList := by
      have h1 := TL.tl_append (z ++ " ") (numT s)
      have h2 := TL.tl_append z " "
      unfold TL.tl at h1 h2
      rw [h1, h2]
    rw [e, ih, e2]
    simp [List.append_assoc]
theorem row_acc (g : Gate) : accS g.kind g.srcs ++ " by " ++ numT g.delay = rowG g := by
  refine TL.ext_tl ?_
  have h1 := TL.tl_append (accS g.kind g.srcs ++ " by ") (numT g.delay)
  have h2 := TL.tl_append (accS g.kind g.srcs) " by "
  unfold TL.tl at h1 h2 ⊢
  rw [h1, h2, tl_accS]
  unfold rowG wordsG
  rw [tl_joinT]
  have e : (([g.kind] ++ g.srcs.map numT ++ [("by" : Str), numT g.delay]).map TL.tl) = g.kind.cps.toList :: ((g.srcs.map fun s => (numT s).cps.toList) ++ [("by" : Str).cps.toList, (numT g.delay).cps.toList]) := by
    simp [TL.tl]
  rw [e, joinL_flat, List.map_append, List.flatten_append]
  have hb : (" by " : Str).cps.toList = (" " : Str).cps.toList ++ ("by" : Str).cps.toList ++ (" " : Str).cps.toList := by decide +kernel
  rw [hb]
  simp [List.append_assoc]
theorem small_log {i : Int} (h : i.natAbs < 10 ^ 9) : i.natAbs.log2 < 1920 := by
  by_cases c : i.natAbs = 0
  · rw [c]; decide
  · exact (Nat.log2_lt c).mpr (Nat.lt_of_lt_of_le h (by decide +kernel))
theorem ev_strI {σ : L2.St} {G : Hp} {ta : TE} {i : Int} (h : Ev ta σ G (.int i)) (hi : i.natAbs < 10 ^ 9) : Ev (tCB rStrI (tCons ta tNil)) σ G (.str (numT i)) := fun H e Q q => h H e _ fun H1 e1 => ⟨i, rfl, small_log hi, q H1 e1⟩
theorem accS_len : ∀ {ss : List Int} {z : Str}, (∀ s ∈ ss, 0 ≤ s ∧ s < 10 ^ 9) → (accS z ss).length ≤ z.length + 10 * ss.length
  | [], z, _ => by simp [accS]
  | s :: r, z, h => by
    have ih := accS_len (ss := r) (z := z ++ " " ++ numT s) fun x hx => h x (List.mem_cons_of_mem _ hx)
    have e : accS z (s :: r) = accS (z ++ " " ++ numT s) r := rfl
    have hl : (z ++ " " ++ numT s : Str).length = z.length + 1 + (numT s).length := by
      rw [PySem.Str.length_append, PySem.Str.length_append]; rfl
    have := numT_len (h s List.mem_cons_self).1 (h s List.mem_cons_self).2
    rw [e, List.length_cons]
    omega

/-! ### what writes nothing -/
def oddHeads : List Str := ["", "in", "in ", "in 01", "In 2", " in 2", "in  2", "in +2", "in -1", "in 2 ", "in 1234567890", "out 2"]
def oddRows0 : List Str := ["", " ", "yes", "yes by", "yes by ", "yes  by 1", "yes by 01", "yes by 1 ", " yes by 1", "YES by 1"]
def oddRows1 : List Str := ["y3s by 1", "keep 0 1", "keep 00 by 1", "keep -0 by 1", "by 1", "keep 0 by 1234567890"]
def oddRows2 : List Str := ["keep 0, by 1", "keep 0 by 1 by", "keep 0 by by 1", "keep 0 BY 1", "keep\t0 by 1", "in 2"]
def oddRows3 : List Str := ["keep 1234567890 by 1", "keep x by 1", " by 1", "yes by -1", "yes by 1.0", "yes by", "# no"]
def oddRows4 : List Str := ["0 by 1", "y-s by 1", "y_s by 1", "y.s by 1", "keep +1 by 1", "keep 0  by 1", "keep 0 by  1"]
def oddRows : List Str := oddRows0 ++ oddRows1 ++ oddRows2 ++ oddRows3 ++ oddRows4
theorem oddRows_ok {k : Nat} (h : k < 36) : gateM (oddRows.getD k "") = none ∧ OneRow (oddRows.getD k "") ∧ (oddRows.getD k "").length ≤ 30 := by
  have : ∀ i : Fin 36, gateM (oddRows.getD i.val "") = none ∧ (10 ∉ (oddRows.getD i.val "").cps.toList) ∧ (oddRows.getD i.val "").length ≤ 30 := by decide +kernel
  exact this ⟨k, h⟩
def headBad (z : Str) : Bool := !decide (Txt.slice z none (some 3) = "in ") || (numM (Txt.slice z (some 3) none)).isNone
theorem oddHeads_ok {k : Nat} (h : k < 12) : headBad (oddHeads.getD k "") = true ∧ OneRow (oddHeads.getD k "") ∧ (oddHeads.getD k "").length ≤ 30 := by
  have : ∀ i : Fin 12, headBad (oddHeads.getD i.val "") = true ∧ (10 ∉ (oddHeads.getD i.val "").cps.toList) ∧ (oddHeads.getD i.val "").length ≤ 30 := by decide +kernel
  exact this ⟨k, h⟩
theorem gatesM_bad : ∀ {zs : List Str} {z : Str}, z ∈ zs → gateM z = none → gatesM zs = none
  | [], _, h, _ => by cases h
  | x :: r, z, h, hn => by
    rw [gatesM]
    rcases List.mem_cons.mp h with rfl | h
    · rw [hn]
    · rw [gatesM_bad h hn]; cases gateM x <;> rfl
theorem parseL_bad {r0 : Str} {rest : List Str} {z : Str} (h : z ∈ rest) (hn : gateM z = none) : parseL (r0 :: rest) = none := by
  rw [parseL, gatesM_bad h hn]
  split
  · cases numM (Txt.slice r0 (some 3) none) <;> rfl
  · rfl
theorem parseL_head {r0 : Str} {rest : List Str} (h : headBad r0 = true) : parseL (r0 :: rest) = none := by
  rw [parseL]
  unfold headBad at h
  split
  · rename_i c
    rw [decide_eq_true c] at h
    have h : (numM (Txt.slice r0 (some 3) none)).isNone = true := by simpa using h
    cases e : numM (Txt.slice r0 (some 3) none) with
    | none => rfl
    | some n => rw [e] at h; cases h
  · rfl
theorem read_bad {rows : List Str} (hne : rows ≠ []) (h1 : ∀ r ∈ rows, OneRow r) (h : parseL rows = none) : readR (Txt.join "\n" rows) = .error .text := by
  unfold readR
  rw [parse_join hne h1, h]
/-- a line end behind -/
theorem join_end {rows : List Str} (hne : rows ≠ []) : Txt.join "\n" rows ++ "\n" = Txt.join "\n" (rows ++ [("" : Str)]) := by
  obtain ⟨r0, rest, rfl⟩ := List.exists_cons_of_ne_nil hne
  refine TL.ext_tl ?_
  have h1 := TL.tl_append (Txt.join "\n" (r0 :: rest)) "\n"
  unfold TL.tl at h1 ⊢
  rw [h1, tl_joinT, tl_joinT, List.map_cons, joinL_flat]
  show _ = TL.joinL _ (TL.tl r0 :: (rest ++ [("" : Str)]).map TL.tl)
  rw [joinL_flat, List.map_append, List.map_append, List.flatten_append]
  have e : (("" : Str).cps.toList) = [] := by decide +kernel
  simp [TL.tl, e, List.append_assoc]
/-! ### wrong rows, with their words -/
def PairS (K : PySem.W.Frag) (G : Hp) (v : V) (w : Str × Str) : Prop := ∃ a, v = .ref a ∧ SqT K G a [.str w.1, .str w.2]
theorem PairS.mono {K : PySem.W.Frag} {G G' : Hp} {v : V} {w : Str × Str} (e : Ex G G') (h : PairS K G v w) : PairS K G' v w := by
  obtain ⟨a, h1, h2⟩ := h
  exact ⟨a, h1, ex_t e h2⟩
def AW (K : PySem.W.Frag) (ps : List (Str × Str)) (vs : List V) (G : Hp) : Prop := Rows (PairS K G) vs ps
def LW (K : PySem.W.Frag) (ps : List (Str × Str)) (v : V) (G : Hp) : Prop := ∃ p ws, v = .ref p ∧ G p = some (.lst ws) ∧ Rows (PairS K G) ws ps
section
variable {K : PySem.W.Frag} {σ : L2.St} {G : Hp} {ta tb : TE} {tA : TA} {ps qs : List (Str × Str)} {z w : Str} {a : Addr} {ws : List V}
theorem eaw_nil : EvAP tNil σ G (AW K []) := (EvAP.of ea_nil).imp fun vs G' _ h => by
  obtain ⟨rfl, _⟩ := h
  exact rows_nil
theorem eaw_cons (hr : ∀ G', Ex G G' → EvAP tA σ G' (AW K ps)) : EvAP (tCons (tTup (tCons (tC (.str z)) (tCons (tC (.str w)) tNil))) tA) σ G (AW K ((z, w) :: ps)) :=
  (eap_cons (R := fun v vs G' => AW K ps vs G') (ep_U (eu_tup (vs := [.str z, .str w]) (ea_cons ev_c (ea_cons ev_c ea_nil)) (by show 2 ≤ 100000; decide))) fun v G' e _ => hr G' e).imp fun vs G' _ hh => by
    obtain ⟨v, vs', G1, rfl, _, e1, ⟨t, rfl, _, rfl⟩, hA⟩ := hh
    refine ⟨by rw [List.length_cons, List.length_cons, hA.1], fun i x y h1 h2 => ?_⟩
    cases i with
    | zero => cases h1; cases h2; exact ⟨t, rfl, st_of (e1 _ _ upd_same)⟩
    | succ i => exact hA.2 i x y h1 h2
theorem epw_lst (h : EvAP tA σ G (AW K ps)) (hn : ps.length ≤ 1000) : EvP (tLst tA) σ G (LW K ps) :=
  ep_lst h (fun vs G' hh => by rw [hh.1]; omega) fun vs G' p _ hh hp => ⟨p, vs, rfl, upd_same, rows_imp hh fun _ _ r => r.mono (Ex.new hp)⟩
theorem epw_cat (ha : Ev ta σ G (.ref a)) (hl : G a = some (.lst ws)) (hA : Rows (PairS K G) ws ps) (hb : EvP tb σ G (LW K qs)) (hz : ps.length + qs.length ≤ 1000) : EvP (tOp rCat ta tb) σ G (LW K (ps ++ qs)) :=
  ep_catX ha hl hb fun v G' e hp => by
    obtain ⟨p, ys, rfl, hy, hB⟩ := hp
    exact ⟨p, ys, rfl, hy, by rw [hA.1, hB.1]; omega, fun r hr => ⟨r, ws ++ ys, rfl, upd_same, rows_append (rows_imp hA fun _ _ r' => r'.mono (e.trans (Ex.new hr))) (rows_imp hB fun _ _ r' => r'.mono (Ex.new hr))⟩⟩
end
theorem sum_le {b : Nat} : ∀ {ys : List Str}, (∀ y ∈ ys, y.length ≤ b) → (ys.map (·.length)).sum ≤ ys.length * b
  | [], _ => by simp
  | y :: r, h => by
    have ih := sum_le (ys := r) fun x hx => h x (List.mem_cons_of_mem _ hx)
    have := h y List.mem_cons_self
    rw [List.map_cons, List.sum_cons, List.length_cons, Nat.succ_mul]
    omega
theorem rowG_len {g : Gate} {lines : Int} (h : errGate g lines = none) (hl : lines ≤ 10 ^ 6) : (rowG g).length ≤ 120 := by
  have ho := rowOk_of h hl
  have hz := gate_short h
  have hk6 : g.kind.length ≤ 6 := by
    obtain ⟨⟨lo, hi, hw, _⟩, _⟩ := gate_ok h
    unfold wantsM at hw
    cases e : least g.kind with
    | none => rw [e] at hw; cases hw
    | some i => exact (kinds9_lets e).2.2
  have hal := accS_len (ss := g.srcs) (z := g.kind) fun x hx => ho.srcs x hx
  have hnl := numT_len ho.delay.1 ho.delay.2
  have h4 : (" by " : Str).length = 4 := by decide +kernel
  rw [← row_acc, PySem.Str.length_append, PySem.Str.length_append]
  omega
theorem rows_short {p : Plan} (v : Valid p) : ∀ r ∈ rowsOf p, r.length ≤ 120 := fun r hr => by
  have := v.m60; have := v.n200; have := v.m0
  rcases List.mem_cons.mp hr with rfl | hr
  · have := numT_len (n := p.many) v.m0 (by omega)
    have h3 : ("in " : Str).length = 3 := by decide +kernel
    rw [PySem.Str.length_append]
    omega
  · obtain ⟨g, hg, rfl⟩ := List.mem_map.mp hr
    exact rowG_len (v.gate g hg) (by unfold Plan.lines; omega)

/-! ### a wrong row among right ones -/
def wrongA : List (Str × Str) := [("and by 1", "kind"), ("by by 1", "kind"), ("keep by 1", "sources"), ("yes 0 by 1", "sources")]
def wrongB : List (Str × Str) := [("keep 999999999 by 1", "line"), ("yes by 0", "delay"), ("no by 61", "delay")]
def wrongC : List (Str × Str) := [("in by 999999999", "kind")]
def wrongRows : List (Str × Str) := wrongA ++ wrongB ++ wrongC
def wrongG : List (Str × List Int × Int) := [("and", [], 1), ("by", [], 1), ("keep", [], 1), ("yes", [0], 1), ("keep", [999999999], 1), ("yes", [], 0), ("no", [], 61), ("in", [], 999999999)]
def wrongE : List Err := [.kind, .kind, .sources, .sources, .line, .delay, .delay, .kind]
def gateT (g : Gate) : Str × List Int × Int := (g.kind, g.srcs, g.delay)
theorem wrong_facts {k : Nat} (h : k < 8) : (gateM (wrongRows.getD k ("", "")).1).map gateT = some (wrongG.getD k ("", [], 0)) ∧ (wrongRows.getD k ("", "")).2 = errWord (wrongE.getD k .text) ∧ OneRow (wrongRows.getD k ("", "")).1 ∧ (wrongRows.getD k ("", "")).1.length ≤ 30 := by
  have : ∀ i : Fin 8, (gateM (wrongRows.getD i.val ("", "")).1).map gateT = some (wrongG.getD i.val ("", [], 0)) ∧ (wrongRows.getD i.val ("", "")).2 = errWord (wrongE.getD i.val .text) ∧ (10 ∉ (wrongRows.getD i.val ("", "")).1.cps.toList) ∧ (wrongRows.getD i.val ("", "")).1.length ≤ 30 := by decide +kernel
  exact this ⟨k, h⟩
theorem wrong_err {k : Nat} (h : k < 8) {lines : Int} (hl : lines ≤ 1000) : errGate ⟨(wrongG.getD k ("", [], 0)).1, (wrongG.getD k ("", [], 0)).2.1, (wrongG.getD k ("", [], 0)).2.2⟩ lines = some (wrongE.getD k .text) := by
  match k, h with
  | 0, _ => rfl
  | 1, _ => rfl
  | 2, _ => rfl
  | 3, _ => rfl
  | 4, _ =>
    have h1 : wantsM "keep" = .ok (1, 1) := by rfl
    show errGate ⟨"keep", [999999999], 1⟩ lines = some .line
    unfold errGate
    rw [h1]
    have h2 : (([999999999] : List Int).any fun s => !(decide (0 ≤ s) && decide (s < lines))) = true := by
      have h3 : decide ((999999999 : Int) < lines) = false := decide_eq_false (by omega)
      simp [h3]
    show (if ¬ ((1 : Int) ≤ (([999999999] : List Int).length : Int) ∧ ((([999999999] : List Int).length : Nat) : Int) ≤ 1) then some Err.sources else if (([999999999] : List Int).any fun s => !(decide (0 ≤ s) && decide (s < lines))) = true then some Err.line else if ¬ ((1 : Int) ≤ 1 ∧ (1 : Int) ≤ 60) then some Err.delay else none) = some .line
    rw [if_neg (by decide), if_pos h2]
  | 5, _ => rfl
  | 6, _ => rfl
  | 7, _ => rfl
theorem wrong_ok {k : Nat} (h : k < 8) : ∃ (g : Gate) (e : Err), gateM (wrongRows.getD k ("", "")).1 = some g ∧ (wrongRows.getD k ("", "")).2 = errWord e ∧ OneRow (wrongRows.getD k ("", "")).1 ∧ (wrongRows.getD k ("", "")).1.length ≤ 30 ∧ ∀ lines : Int, lines ≤ 1000 → errGate g lines = some e := by
  obtain ⟨h1, h2, h3, h4⟩ := wrong_facts h
  cases hg : gateM (wrongRows.getD k ("", "")).1 with
  | none => rw [hg] at h1; cases h1
  | some g =>
    rw [hg] at h1
    refine ⟨g, _, rfl, h2, h3, h4, fun lines hl => ?_⟩
    have h1 : gateT g = wrongG.getD k ("", [], 0) := Option.some.inj h1
    have hw := wrong_err h hl
    rw [← h1] at hw
    exact hw
theorem gate_more {g : Gate} {l l' : Int} (h : errGate g l = none) (hl : l ≤ l') : errGate g l' = none := by
  obtain ⟨⟨lo, hi, h1, h2⟩, h3, h4⟩ := gate_ok h
  exact gate_err h1 h2 (fun s hs => by have := h3 s hs; omega) h4
theorem gatesM_app : ∀ {xs ys : List Str} {a b : List Gate}, gatesM xs = some a → gatesM ys = some b → gatesM (xs ++ ys) = some (a ++ b)
  | [], ys, a, b, h, h2 => by rw [gatesM] at h; cases h; exact h2
  | x :: r, ys, a, b, h, h2 => by
    rw [gatesM] at h
    cases h1 : gateM x with
    | none => rw [h1] at h; cases h
    | some n =>
      rw [h1] at h
      cases h3 : gatesM r with
      | none => rw [h3] at h; cases h
      | some ms =>
        rw [h3] at h
        cases h
        rw [List.cons_append, gatesM, h1, gatesM_app h3 h2]; rfl
/-- one gate put in -/
def putG (gs : List Gate) (n : Nat) (g : Gate) : List Gate := gs.take n ++ [g] ++ gs.drop n
theorem putG_len (gs : List Gate) (n : Nat) (g : Gate) : (putG gs n g).length = gs.length + 1 := by
  unfold putG
  simp only [List.length_append, List.length_take, List.length_drop, List.length_cons, List.length_nil]
  omega
/-- the rows of a plan, one put in -/
def putRows (h : Str) (p : Plan) (n : Nat) (z : Str) : List Str := h :: ((p.gates.map rowG).take n ++ [z] ++ (p.gates.map rowG).drop n)
theorem put_rows {p : Plan} {n : Nat} {z : Str} : (rowsOf p).take (n + 1) ++ [z] ++ (rowsOf p).drop (n + 1) = putRows ("in " ++ numT p.many) p n z := rfl
theorem parse_put {p : Plan} (v : Valid p) {n : Nat} {z h : Str} {m : Int} {g : Gate} (hg : gateM z = some g) (h1 : Txt.slice h none (some 3) = "in ") (h2 : numM (Txt.slice h (some 3) none) = some m) : parseL (putRows h p n z) = some ⟨m, putG p.gates n g⟩ := by
  unfold putRows
  rw [parseL, if_pos h1, h2]
  have ha : gatesM ((p.gates.map rowG).take n ++ [z] ++ (p.gates.map rowG).drop n) = some (putG p.gates n g) := by
    refine gatesM_app (gatesM_app ?_ ?_) ?_
    · rw [← List.map_take]
      exact gatesM_rows fun x hx => valid_rows v x (List.mem_of_mem_take hx)
    · rw [gatesM, hg, gatesM]
    · rw [← List.map_drop]
      exact gatesM_rows fun x hx => valid_rows v x (List.mem_of_mem_drop hx)
  rw [ha]
theorem err_put {p : Plan} (v : Valid p) {n : Nat} {m : Int} {g : Gate} {e : Err} (hn : n ≤ p.gates.length) (he : ∀ lines : Int, lines ≤ 1000 → errGate g lines = some e) (hm : m = p.many) (h2 : p.gates.length + 1 ≤ 200) : errPlan ⟨m, putG p.gates n g⟩ = some e := by
  subst hm
  have m0 := v.m0
  have m60 := v.m60
  have hl := putG_len p.gates n g
  unfold errPlan
  rw [if_neg (by
    rintro (h | h)
    · exact h ⟨m0, m60⟩
    · have h : 200 < (putG p.gates n g).length := h
      omega)]
  have hL : (⟨p.many, putG p.gates n g⟩ : Plan).lines = p.lines + 1 := by unfold Plan.lines; show p.many + ((putG p.gates n g).length : Int) = _; rw [hl]; omega
  rw [hL]
  have hlp : p.lines ≤ 260 := by unfold Plan.lines; omega
  refine errGates_first (i := n) (g := g) (fun k x hk hx => ?_) ?_ (he _ (by omega))
  · have hx : (putG p.gates n g)[k]? = some x := hx
    unfold putG at hx
    rw [List.append_assoc, List.getElem?_append_left (by rw [List.length_take]; omega), List.getElem?_take_of_lt hk] at hx
    exact gate_more (v.gate x (List.mem_of_getElem? hx)) (by omega)
  · show (putG p.gates n g)[n]? = some g
    unfold putG
    rw [List.append_assoc, List.getElem?_append_right (by rw [List.length_take]; omega), List.length_take]
    rw [show n - min n p.gates.length = 0 from by omega]
    rfl
theorem size_put {p : Plan} {n : Nat} {m : Int} {g : Gate} (h : m = 61 ∨ 200 < p.gates.length + 1) : errPlan ⟨m, putG p.gates n g⟩ = some .size := by
  unfold errPlan
  rw [if_pos]
  rcases h with h | h
  · left
    show ¬ (0 ≤ m ∧ m ≤ 60)
    omega
  · right
    show 200 < (putG p.gates n g).length
    rw [putG_len]; exact h
theorem put_mem {h z x : Str} {p : Plan} {n : Nat} (hx : x ∈ putRows h p n z) : x = h ∨ x = z ∨ x ∈ rowsOf p := by
  unfold putRows at hx
  rcases List.mem_cons.mp hx with rfl | hx
  · exact .inl rfl
  · rcases List.mem_append.mp hx with hx | hx
    · rcases List.mem_append.mp hx with hx | hx
      · exact .inr (.inr (List.mem_cons_of_mem _ (List.mem_of_mem_take hx)))
      · exact .inr (.inl (List.mem_singleton.mp hx))
    · exact .inr (.inr (List.mem_cons_of_mem _ (List.mem_of_mem_drop hx)))
theorem put_len {h z : Str} {p : Plan} {n : Nat} : (putRows h p n z).length = p.gates.length + 2 := by
  unfold putRows
  simp only [List.length_append, List.length_take, List.length_drop, List.length_cons, List.length_nil, List.length_map]
  omega
theorem rowsOf_len {p : Plan} : (rowsOf p).length = p.gates.length + 1 := by unfold rowsOf; rw [List.length_cons, List.length_map]
theorem rowsOf_ne {p : Plan} : rowsOf p ≠ [] := by unfold rowsOf; simp
theorem join_short {rows : List Str} (hn : rows.length ≤ 203) (h : ∀ r ∈ rows, r.length ≤ 120) : (Txt.join "\n" rows).length ≤ 24600 ∧ (rows.map (·.length)).sum + rows.length * ("\n" : Str).length ≤ 16777216 := by
  have h1 := StrLaws.join_length_le "\n" rows
  have h2 := sum_le h
  have h3 : ("\n" : Str).length = 1 := by decide +kernel
  rw [h3] at h1 ⊢
  have h4 : rows.length * 120 ≤ 203 * 120 := Nat.mul_le_mul_right _ hn
  rw [TL.join_eq]
  omega
theorem read_put {rows : List Str} {p : Plan} {e : Err} (hne : rows ≠ []) (h1 : ∀ r ∈ rows, OneRow r) (h : parseL rows = some p) (he : errPlan p = some e) : readR (Txt.join "\n" rows) = .error e := by
  unfold readR
  rw [parse_join hne h1, h]
  show orErr (errPlan p) p = _
  rw [he]; rfl
/-- a text cut at two places -/
theorem cut_text (z : Str) {a b : Nat} (ha : a ≤ z.length) (hb : b ≤ z.length) : (Txt.slice z none (some (a : Int))).length = a ∧ (Txt.slice z (some (b : Int)) none).length = z.length - b := by
  have hz : z = SX.S z.cps.toList := (SX.S_tl z).symm
  have hl : z.length = z.cps.toList.length := TL.len_tl z
  have e1 : z = SX.S (z.cps.toList.take a ++ z.cps.toList.drop a) := by rw [List.take_append_drop, SX.S_tl]
  have e2 : z = SX.S (z.cps.toList.take b ++ z.cps.toList.drop b) := by rw [List.take_append_drop, SX.S_tl]
  have l1 : (a : Int) = (((z.cps.toList.take a).length : Nat) : Int) := by rw [List.length_take]; congr 1; omega
  have l2 : (b : Int) = (((z.cps.toList.take b).length : Nat) : Int) := by rw [List.length_take]; congr 1; omega
  constructor
  · have := SX.to_app (z.cps.toList.take a) (z.cps.toList.drop a) l1
    rw [← e1] at this
    rw [this, SX.S_len, List.length_take]; omega
  · have := SX.from_app (z.cps.toList.take b) (z.cps.toList.drop b) l2
    rw [← e2] at this
    rw [this, SX.S_len, List.length_drop]; omega
theorem head_61 : Txt.slice ("in 61" : Str) none (some 3) = "in " ∧ numM (Txt.slice ("in 61" : Str) (some 3) none) = some 61 ∧ OneRow ("in 61" : Str) := by
  have : Txt.slice ("in 61" : Str) none (some 3) = "in " ∧ numM (Txt.slice ("in 61" : Str) (some 3) none) = some 61 ∧ (10 ∉ ("in 61" : Str).cps.toList) := by decide +kernel
  exact this

def topS (i : Nat) : Stmt := PySem.Challenge.pw_signalgraph_k14_written_and_read.main.body.getD i (.Pass ⟨0, 0, 0, 0⟩)
abbrev s_wants : Stmt := topS 14
abbrev s_checked_gate : Stmt := topS 19
abbrev s_checked : Stmt := topS 20
abbrev s_written : Stmt := topS 25
abbrev s_number : Stmt := topS 26
abbrev s_gate_of : Stmt := topS 27
abbrev s_read : Stmt := topS 28
abbrev s_l_cell_at : Stmt := topS 30
abbrev s_l_whole : Stmt := topS 31
abbrev s_l_mixed : Stmt := topS 32
abbrev s_l_many : Stmt := topS 33
abbrev s_l_gate_by : Stmt := topS 34
abbrev s_l_gates_by : Stmt := topS 35
abbrev s_l_place : Stmt := topS 36
abbrev s_l_turned : Stmt := topS 37
abbrev s_l_loose : Stmt := topS 38
abbrev s_l_plan_by : Stmt := topS 39
abbrev s_l_same_plan : Stmt := topS 40
abbrev s_l_text_of : Stmt := topS 41
abbrev s_l_odd_head : Stmt := topS 42
abbrev s_l_odd_row : Stmt := topS 43
abbrev s_l_sign_by : Stmt := topS 44
abbrev s_l_figures : Stmt := topS 45
abbrev s_l_gate_of : Stmt := topS 46
abbrev s_l_parsed : Stmt := topS 47
abbrev s_l_fault : Stmt := topS 48
abbrev s_l_due : Stmt := topS 49
abbrev s_l_judged : Stmt := topS 50
abbrev s_l_wrong_row : Stmt := topS 51
abbrev s_l_class : Stmt := topS 52
abbrev s_l_refused : Stmt := topS 53
abbrev s_law : Stmt := topS 54
theorem sc_wants : FnScope ["kind", "least"] ["kind"] (defScope s_wants) := ⟨rfl, rfl, rfl, by decide +kernel, rfl, by decide +kernel, by decide +kernel⟩
theorem sc_checked_gate : FnScope ["gate", "lines", "bounds", "source"] ["gate", "lines"] (defScope s_checked_gate) := ⟨rfl, rfl, rfl, by decide +kernel, rfl, by decide +kernel, by decide +kernel⟩
theorem sc_checked : FnScope ["plan", "lines", "gate"] ["plan"] (defScope s_checked) := ⟨rfl, rfl, rfl, by decide +kernel, rfl, by decide +kernel, by decide +kernel⟩
theorem sc_written : FnScope ["plan", "rows", "gate", "words", "source"] ["plan"] (defScope s_written) := ⟨rfl, rfl, rfl, by decide +kernel, rfl, by decide +kernel, by decide +kernel⟩
theorem sc_number : FnScope ["word", "sign"] ["word"] (defScope s_number) := ⟨rfl, rfl, rfl, by decide +kernel, rfl, by decide +kernel, by decide +kernel⟩
theorem sc_gate_of : FnScope ["row", "words", "sign", "word"] ["row"] (defScope s_gate_of) := ⟨rfl, rfl, rfl, by decide +kernel, rfl, by decide +kernel, by decide +kernel⟩
theorem sc_read : FnScope ["text", "rows", "plan", "row"] ["text"] (defScope s_read) := ⟨rfl, rfl, rfl, by decide +kernel, rfl, by decide +kernel, by decide +kernel⟩
theorem sc_l_cell_at : FnScope ["_law_script", "_law_k"] ["_law_script", "_law_k"] (defScope s_l_cell_at) := ⟨rfl, rfl, rfl, by decide +kernel, rfl, by decide +kernel, by decide +kernel⟩
theorem sc_l_whole : FnScope ["_law_found"] ["_law_found"] (defScope s_l_whole) := ⟨rfl, rfl, rfl, by decide +kernel, rfl, by decide +kernel, by decide +kernel⟩
theorem sc_l_mixed : FnScope ["_law_cell", "_law_k", "_law_many_here", "_law_some"] ["_law_cell", "_law_k", "_law_many_here"] (defScope s_l_mixed) := ⟨rfl, rfl, rfl, by decide +kernel, rfl, by decide +kernel, by decide +kernel⟩
theorem sc_l_many : FnScope ["_law_cell"] ["_law_cell"] (defScope s_l_many) := ⟨rfl, rfl, rfl, by decide +kernel, rfl, by decide +kernel, by decide +kernel⟩
theorem sc_l_gate_by : FnScope ["_law_cell", "_law_below", "_law_most", "_law_way", "_law_many_here", "_law_sources", "_law_kind", "_law_k"] ["_law_cell", "_law_below", "_law_most"] (defScope s_l_gate_by) := ⟨rfl, rfl, rfl, by decide +kernel, rfl, by decide +kernel, by decide +kernel⟩
theorem sc_l_gates_by : FnScope ["_law_script", "_law_many_here", "_law_most", "_law_gates", "_law_cells", "_law_far", "_law_k", "_law_cell"] ["_law_script", "_law_many_here", "_law_most"] (defScope s_l_gates_by) := ⟨rfl, rfl, rfl, by decide +kernel, rfl, by decide +kernel, by decide +kernel⟩
theorem sc_l_place : FnScope ["_law_k", "_law_count", "_law_turn"] ["_law_k", "_law_count", "_law_turn"] (defScope s_l_place) := ⟨rfl, rfl, rfl, by decide +kernel, rfl, by decide +kernel, by decide +kernel⟩
theorem sc_l_turned : FnScope ["_law_many_here", "_law_gates", "_law_turn", "_law_made", "_law_k", "_law_sources", "_law_source"] ["_law_many_here", "_law_gates", "_law_turn"] (defScope s_l_turned) := ⟨rfl, rfl, rfl, by decide +kernel, rfl, by decide +kernel, by decide +kernel⟩
theorem sc_l_loose : FnScope ["_law_script", "_law_many_here", "_law_most", "_law_cells", "_law_far", "_law_count", "_law_ringed", "_law_k", "_law_cell"] ["_law_script", "_law_many_here", "_law_most"] (defScope s_l_loose) := ⟨rfl, rfl, rfl, by decide +kernel, rfl, by decide +kernel, by decide +kernel⟩
theorem sc_l_plan_by : FnScope ["_law_script", "_law_most", "_law_many_here"] ["_law_script", "_law_most"] (defScope s_l_plan_by) := ⟨rfl, rfl, rfl, by decide +kernel, rfl, by decide +kernel, by decide +kernel⟩
theorem sc_l_same_plan : FnScope ["_law_found", "_law_due_here", "_law_k", "_law_gate", "_law_one"] ["_law_found", "_law_due_here"] (defScope s_l_same_plan) := ⟨rfl, rfl, rfl, by decide +kernel, rfl, by decide +kernel, by decide +kernel⟩
theorem sc_l_text_of : FnScope ["_law_plan", "_law_rows", "_law_gate", "_law_row", "_law_source"] ["_law_plan"] (defScope s_l_text_of) := ⟨rfl, rfl, rfl, by decide +kernel, rfl, by decide +kernel, by decide +kernel⟩
theorem sc_l_odd_head : FnScope ["_law_cell", "_law_some"] ["_law_cell"] (defScope s_l_odd_head) := ⟨rfl, rfl, rfl, by decide +kernel, rfl, by decide +kernel, by decide +kernel⟩
theorem sc_l_odd_row : FnScope ["_law_cell", "_law_some"] ["_law_cell"] (defScope s_l_odd_row) := ⟨rfl, rfl, rfl, by decide +kernel, rfl, by decide +kernel, by decide +kernel⟩
theorem sc_l_sign_by : FnScope ["_law_cell", "_law_some"] ["_law_cell"] (defScope s_l_sign_by) := ⟨rfl, rfl, rfl, by decide +kernel, rfl, by decide +kernel, by decide +kernel⟩
theorem sc_l_figures : FnScope ["_law_word", "_law_sign"] ["_law_word"] (defScope s_l_figures) := ⟨rfl, rfl, rfl, by decide +kernel, rfl, by decide +kernel, by decide +kernel⟩
theorem sc_l_gate_of : FnScope ["_law_row", "_law_words", "_law_sources", "_law_word", "_law_sign"] ["_law_row"] (defScope s_l_gate_of) := ⟨rfl, rfl, rfl, by decide +kernel, rfl, by decide +kernel, by decide +kernel⟩
theorem sc_l_parsed : FnScope ["_law_told", "_law_rows", "_law_gates", "_law_row"] ["_law_told"] (defScope s_l_parsed) := ⟨rfl, rfl, rfl, by decide +kernel, rfl, by decide +kernel, by decide +kernel⟩
theorem sc_l_fault : FnScope ["_law_gate", "_law_lines", "_law_k", "_law_low", "_law_high", "_law_source"] ["_law_gate", "_law_lines"] (defScope s_l_fault) := ⟨rfl, rfl, rfl, by decide +kernel, rfl, by decide +kernel, by decide +kernel⟩
theorem sc_l_due : FnScope ["_law_told", "_law_plan", "_law_gate"] ["_law_told"] (defScope s_l_due) := ⟨rfl, rfl, rfl, by decide +kernel, rfl, by decide +kernel, by decide +kernel⟩
theorem sc_l_judged : FnScope ["_law_told", "_law_due_here"] ["_law_told"] (defScope s_l_judged) := ⟨rfl, rfl, rfl, by decide +kernel, rfl, by decide +kernel, by decide +kernel⟩
theorem sc_l_wrong_row : FnScope ["_law_cell", "_law_some"] ["_law_cell"] (defScope s_l_wrong_row) := ⟨rfl, rfl, rfl, by decide +kernel, rfl, by decide +kernel, by decide +kernel⟩
theorem sc_l_class : FnScope ["_law_e", "_law_words"] ["_law_e"] (defScope s_l_class) := ⟨rfl, rfl, rfl, by decide +kernel, rfl, by decide +kernel, by decide +kernel⟩
theorem sc_l_refused : FnScope ["_law_told", "_law_due_here", "_law_e"] ["_law_told", "_law_due_here"] (defScope s_l_refused) := ⟨rfl, rfl, rfl, by decide +kernel, rfl, by decide +kernel, by decide +kernel⟩
theorem sc_law : FnScope ["_law_script", "_law_plan", "_law_rows", "_law_cell", "_law_at", "_law_way", "_law_wrong", "_law_due_here", "_law_told", "_law_spot", "_law_handed", "_law_found"] ["_law_script"] (defScope s_law) := ⟨rfl, rfl, rfl, by decide +kernel, rfl, by decide +kernel, by decide +kernel⟩
/-- what the top has left -/
structure Txt (K : PySem.W.Frag) (w : World) (mg : Str → Option Value) (A : Ads) : Prop where
  n_range : mg "range" = none
  n_len : mg "len" = none
  n_all : mg "all" = none
  n_list : mg "list" = none
  n_tuple : mg "tuple" = none
  n_int : mg "int" = none
  n_bool : mg "bool" = none
  n_str : mg "str" = none
  n_isinstance : mg "isinstance" = none
  n_ValueError : mg "ValueError" = none
  c_MANY_SOURCES : ∃ u, mg "MANY_SOURCES" = some u ∧ RelV (.int 9) u
  c_MANY_INPUTS : ∃ u, mg "MANY_INPUTS" = some u ∧ RelV (.int 60) u
  c_MANY_GATES : ∃ u, mg "MANY_GATES" = some u ∧ RelV (.int 200) u
  c_MOST_DELAY : ∃ u, mg "MOST_DELAY" = some u ∧ RelV (.int 60) u
  c_MANY_FIGURES : ∃ u, mg "MANY_FIGURES" = some u ∧ RelV (.int 9) u
  c_FIGURES : ∃ u, mg "FIGURES" = some u ∧ RelV (.str "0123456789") u
  c_LETTERS : ∃ u, mg "LETTERS" = some u ∧ RelV (.str "abcdefghijklmnopqrstuvwxyz") u
  c_LEAST : mg "LEAST" = some (.ref A.LEAST)
  d_LEAST : LeastAt K w A.LEAST
  g_SignalError : mg "SignalError" = some (.ref A.SignalError)
  x_SignalError : PySem.W.excIn K A.SignalError [.type "ValueError", .type "Exception", .type "BaseException", .type "object"] "ValueError.__new__" = true
  k_SignalError : PySem.W.keepIn K (.ref A.SignalError) = true
  b_SignalError : PySem.W.subIn K (.ref A.SignalError) (.type "BaseException") = some true
  t_SignalError : PySem.W.typeIn K (.ref A.SignalError) = some (.type "type")
  g_NoSize : mg "NoSize" = some (.ref A.NoSize)
  x_NoSize : PySem.W.excIn K A.NoSize [.type "ValueError", .type "Exception", .type "BaseException", .type "object"] "ValueError.__new__" = true
  k_NoSize : PySem.W.keepIn K (.ref A.NoSize) = true
  b_NoSize : PySem.W.subIn K (.ref A.NoSize) (.type "BaseException") = some true
  t_NoSize : PySem.W.typeIn K (.ref A.NoSize) = some (.type "type")
  g_NoKind : mg "NoKind" = some (.ref A.NoKind)
  x_NoKind : PySem.W.excIn K A.NoKind [.type "ValueError", .type "Exception", .type "BaseException", .type "object"] "ValueError.__new__" = true
  k_NoKind : PySem.W.keepIn K (.ref A.NoKind) = true
  b_NoKind : PySem.W.subIn K (.ref A.NoKind) (.type "BaseException") = some true
  t_NoKind : PySem.W.typeIn K (.ref A.NoKind) = some (.type "type")
  g_NoSources : mg "NoSources" = some (.ref A.NoSources)
  x_NoSources : PySem.W.excIn K A.NoSources [.type "ValueError", .type "Exception", .type "BaseException", .type "object"] "ValueError.__new__" = true
  k_NoSources : PySem.W.keepIn K (.ref A.NoSources) = true
  b_NoSources : PySem.W.subIn K (.ref A.NoSources) (.type "BaseException") = some true
  t_NoSources : PySem.W.typeIn K (.ref A.NoSources) = some (.type "type")
  g_NoLine : mg "NoLine" = some (.ref A.NoLine)
  x_NoLine : PySem.W.excIn K A.NoLine [.type "ValueError", .type "Exception", .type "BaseException", .type "object"] "ValueError.__new__" = true
  k_NoLine : PySem.W.keepIn K (.ref A.NoLine) = true
  b_NoLine : PySem.W.subIn K (.ref A.NoLine) (.type "BaseException") = some true
  t_NoLine : PySem.W.typeIn K (.ref A.NoLine) = some (.type "type")
  g_NoDelay : mg "NoDelay" = some (.ref A.NoDelay)
  x_NoDelay : PySem.W.excIn K A.NoDelay [.type "ValueError", .type "Exception", .type "BaseException", .type "object"] "ValueError.__new__" = true
  k_NoDelay : PySem.W.keepIn K (.ref A.NoDelay) = true
  b_NoDelay : PySem.W.subIn K (.ref A.NoDelay) (.type "BaseException") = some true
  t_NoDelay : PySem.W.typeIn K (.ref A.NoDelay) = some (.type "type")
  g_NoValues : mg "NoValues" = some (.ref A.NoValues)
  x_NoValues : PySem.W.excIn K A.NoValues [.type "ValueError", .type "Exception", .type "BaseException", .type "object"] "ValueError.__new__" = true
  k_NoValues : PySem.W.keepIn K (.ref A.NoValues) = true
  b_NoValues : PySem.W.subIn K (.ref A.NoValues) (.type "BaseException") = some true
  t_NoValues : PySem.W.typeIn K (.ref A.NoValues) = some (.type "type")
  g_Ringed : mg "Ringed" = some (.ref A.Ringed)
  x_Ringed : PySem.W.excIn K A.Ringed [.type "ValueError", .type "Exception", .type "BaseException", .type "object"] "ValueError.__new__" = true
  k_Ringed : PySem.W.keepIn K (.ref A.Ringed) = true
  b_Ringed : PySem.W.subIn K (.ref A.Ringed) (.type "BaseException") = some true
  t_Ringed : PySem.W.typeIn K (.ref A.Ringed) = some (.type "type")
  g_NoDeed : mg "NoDeed" = some (.ref A.NoDeed)
  x_NoDeed : PySem.W.excIn K A.NoDeed [.type "ValueError", .type "Exception", .type "BaseException", .type "object"] "ValueError.__new__" = true
  k_NoDeed : PySem.W.keepIn K (.ref A.NoDeed) = true
  b_NoDeed : PySem.W.subIn K (.ref A.NoDeed) (.type "BaseException") = some true
  t_NoDeed : PySem.W.typeIn K (.ref A.NoDeed) = some (.type "type")
  g_NoText : mg "NoText" = some (.ref A.NoText)
  x_NoText : PySem.W.excIn K A.NoText [.type "ValueError", .type "Exception", .type "BaseException", .type "object"] "ValueError.__new__" = true
  k_NoText : PySem.W.keepIn K (.ref A.NoText) = true
  b_NoText : PySem.W.subIn K (.ref A.NoText) (.type "BaseException") = some true
  t_NoText : PySem.W.typeIn K (.ref A.NoText) = some (.type "type")
  m_NoSize_SignalError : PySem.W.exmOne K (.ref A.NoSize) (.ref A.SignalError) = some true
  e_NoSize : ExcC K A.NoSize
  v_NoSize : PySem.W.kitOne K (.ref A.NoSize) (.type "ValueError") = some true
  j_NoSize_NoDeed : PySem.W.kitOne K (.ref A.NoSize) (.ref A.NoDeed) = some false
  j_NoSize_NoDelay : PySem.W.kitOne K (.ref A.NoSize) (.ref A.NoDelay) = some false
  j_NoSize_NoKind : PySem.W.kitOne K (.ref A.NoSize) (.ref A.NoKind) = some false
  j_NoSize_NoLine : PySem.W.kitOne K (.ref A.NoSize) (.ref A.NoLine) = some false
  j_NoSize_NoSize : PySem.W.kitOne K (.ref A.NoSize) (.ref A.NoSize) = some true
  j_NoSize_NoSources : PySem.W.kitOne K (.ref A.NoSize) (.ref A.NoSources) = some false
  j_NoSize_NoText : PySem.W.kitOne K (.ref A.NoSize) (.ref A.NoText) = some false
  j_NoSize_NoValues : PySem.W.kitOne K (.ref A.NoSize) (.ref A.NoValues) = some false
  j_NoSize_Ringed : PySem.W.kitOne K (.ref A.NoSize) (.ref A.Ringed) = some false
  m_NoKind_SignalError : PySem.W.exmOne K (.ref A.NoKind) (.ref A.SignalError) = some true
  e_NoKind : ExcC K A.NoKind
  v_NoKind : PySem.W.kitOne K (.ref A.NoKind) (.type "ValueError") = some true
  j_NoKind_NoDeed : PySem.W.kitOne K (.ref A.NoKind) (.ref A.NoDeed) = some false
  j_NoKind_NoDelay : PySem.W.kitOne K (.ref A.NoKind) (.ref A.NoDelay) = some false
  j_NoKind_NoKind : PySem.W.kitOne K (.ref A.NoKind) (.ref A.NoKind) = some true
  j_NoKind_NoLine : PySem.W.kitOne K (.ref A.NoKind) (.ref A.NoLine) = some false
  j_NoKind_NoSize : PySem.W.kitOne K (.ref A.NoKind) (.ref A.NoSize) = some false
  j_NoKind_NoSources : PySem.W.kitOne K (.ref A.NoKind) (.ref A.NoSources) = some false
  j_NoKind_NoText : PySem.W.kitOne K (.ref A.NoKind) (.ref A.NoText) = some false
  j_NoKind_NoValues : PySem.W.kitOne K (.ref A.NoKind) (.ref A.NoValues) = some false
  j_NoKind_Ringed : PySem.W.kitOne K (.ref A.NoKind) (.ref A.Ringed) = some false
  m_NoSources_SignalError : PySem.W.exmOne K (.ref A.NoSources) (.ref A.SignalError) = some true
  e_NoSources : ExcC K A.NoSources
  v_NoSources : PySem.W.kitOne K (.ref A.NoSources) (.type "ValueError") = some true
  j_NoSources_NoDeed : PySem.W.kitOne K (.ref A.NoSources) (.ref A.NoDeed) = some false
  j_NoSources_NoDelay : PySem.W.kitOne K (.ref A.NoSources) (.ref A.NoDelay) = some false
  j_NoSources_NoKind : PySem.W.kitOne K (.ref A.NoSources) (.ref A.NoKind) = some false
  j_NoSources_NoLine : PySem.W.kitOne K (.ref A.NoSources) (.ref A.NoLine) = some false
  j_NoSources_NoSize : PySem.W.kitOne K (.ref A.NoSources) (.ref A.NoSize) = some false
  j_NoSources_NoSources : PySem.W.kitOne K (.ref A.NoSources) (.ref A.NoSources) = some true
  j_NoSources_NoText : PySem.W.kitOne K (.ref A.NoSources) (.ref A.NoText) = some false
  j_NoSources_NoValues : PySem.W.kitOne K (.ref A.NoSources) (.ref A.NoValues) = some false
  j_NoSources_Ringed : PySem.W.kitOne K (.ref A.NoSources) (.ref A.Ringed) = some false
  m_NoLine_SignalError : PySem.W.exmOne K (.ref A.NoLine) (.ref A.SignalError) = some true
  e_NoLine : ExcC K A.NoLine
  v_NoLine : PySem.W.kitOne K (.ref A.NoLine) (.type "ValueError") = some true
  j_NoLine_NoDeed : PySem.W.kitOne K (.ref A.NoLine) (.ref A.NoDeed) = some false
  j_NoLine_NoDelay : PySem.W.kitOne K (.ref A.NoLine) (.ref A.NoDelay) = some false
  j_NoLine_NoKind : PySem.W.kitOne K (.ref A.NoLine) (.ref A.NoKind) = some false
  j_NoLine_NoLine : PySem.W.kitOne K (.ref A.NoLine) (.ref A.NoLine) = some true
  j_NoLine_NoSize : PySem.W.kitOne K (.ref A.NoLine) (.ref A.NoSize) = some false
  j_NoLine_NoSources : PySem.W.kitOne K (.ref A.NoLine) (.ref A.NoSources) = some false
  j_NoLine_NoText : PySem.W.kitOne K (.ref A.NoLine) (.ref A.NoText) = some false
  j_NoLine_NoValues : PySem.W.kitOne K (.ref A.NoLine) (.ref A.NoValues) = some false
  j_NoLine_Ringed : PySem.W.kitOne K (.ref A.NoLine) (.ref A.Ringed) = some false
  m_NoDelay_SignalError : PySem.W.exmOne K (.ref A.NoDelay) (.ref A.SignalError) = some true
  e_NoDelay : ExcC K A.NoDelay
  v_NoDelay : PySem.W.kitOne K (.ref A.NoDelay) (.type "ValueError") = some true
  j_NoDelay_NoDeed : PySem.W.kitOne K (.ref A.NoDelay) (.ref A.NoDeed) = some false
  j_NoDelay_NoDelay : PySem.W.kitOne K (.ref A.NoDelay) (.ref A.NoDelay) = some true
  j_NoDelay_NoKind : PySem.W.kitOne K (.ref A.NoDelay) (.ref A.NoKind) = some false
  j_NoDelay_NoLine : PySem.W.kitOne K (.ref A.NoDelay) (.ref A.NoLine) = some false
  j_NoDelay_NoSize : PySem.W.kitOne K (.ref A.NoDelay) (.ref A.NoSize) = some false
  j_NoDelay_NoSources : PySem.W.kitOne K (.ref A.NoDelay) (.ref A.NoSources) = some false
  j_NoDelay_NoText : PySem.W.kitOne K (.ref A.NoDelay) (.ref A.NoText) = some false
  j_NoDelay_NoValues : PySem.W.kitOne K (.ref A.NoDelay) (.ref A.NoValues) = some false
  j_NoDelay_Ringed : PySem.W.kitOne K (.ref A.NoDelay) (.ref A.Ringed) = some false
  m_NoValues_SignalError : PySem.W.exmOne K (.ref A.NoValues) (.ref A.SignalError) = some true
  e_NoValues : ExcC K A.NoValues
  v_NoValues : PySem.W.kitOne K (.ref A.NoValues) (.type "ValueError") = some true
  j_NoValues_NoDeed : PySem.W.kitOne K (.ref A.NoValues) (.ref A.NoDeed) = some false
  j_NoValues_NoDelay : PySem.W.kitOne K (.ref A.NoValues) (.ref A.NoDelay) = some false
  j_NoValues_NoKind : PySem.W.kitOne K (.ref A.NoValues) (.ref A.NoKind) = some false
  j_NoValues_NoLine : PySem.W.kitOne K (.ref A.NoValues) (.ref A.NoLine) = some false
  j_NoValues_NoSize : PySem.W.kitOne K (.ref A.NoValues) (.ref A.NoSize) = some false
  j_NoValues_NoSources : PySem.W.kitOne K (.ref A.NoValues) (.ref A.NoSources) = some false
  j_NoValues_NoText : PySem.W.kitOne K (.ref A.NoValues) (.ref A.NoText) = some false
  j_NoValues_NoValues : PySem.W.kitOne K (.ref A.NoValues) (.ref A.NoValues) = some true
  j_NoValues_Ringed : PySem.W.kitOne K (.ref A.NoValues) (.ref A.Ringed) = some false
  m_Ringed_SignalError : PySem.W.exmOne K (.ref A.Ringed) (.ref A.SignalError) = some true
  e_Ringed : ExcC K A.Ringed
  v_Ringed : PySem.W.kitOne K (.ref A.Ringed) (.type "ValueError") = some true
  j_Ringed_NoDeed : PySem.W.kitOne K (.ref A.Ringed) (.ref A.NoDeed) = some false
  j_Ringed_NoDelay : PySem.W.kitOne K (.ref A.Ringed) (.ref A.NoDelay) = some false
  j_Ringed_NoKind : PySem.W.kitOne K (.ref A.Ringed) (.ref A.NoKind) = some false
  j_Ringed_NoLine : PySem.W.kitOne K (.ref A.Ringed) (.ref A.NoLine) = some false
  j_Ringed_NoSize : PySem.W.kitOne K (.ref A.Ringed) (.ref A.NoSize) = some false
  j_Ringed_NoSources : PySem.W.kitOne K (.ref A.Ringed) (.ref A.NoSources) = some false
  j_Ringed_NoText : PySem.W.kitOne K (.ref A.Ringed) (.ref A.NoText) = some false
  j_Ringed_NoValues : PySem.W.kitOne K (.ref A.Ringed) (.ref A.NoValues) = some false
  j_Ringed_Ringed : PySem.W.kitOne K (.ref A.Ringed) (.ref A.Ringed) = some true
  m_NoDeed_SignalError : PySem.W.exmOne K (.ref A.NoDeed) (.ref A.SignalError) = some true
  e_NoDeed : ExcC K A.NoDeed
  v_NoDeed : PySem.W.kitOne K (.ref A.NoDeed) (.type "ValueError") = some true
  j_NoDeed_NoDeed : PySem.W.kitOne K (.ref A.NoDeed) (.ref A.NoDeed) = some true
  j_NoDeed_NoDelay : PySem.W.kitOne K (.ref A.NoDeed) (.ref A.NoDelay) = some false
  j_NoDeed_NoKind : PySem.W.kitOne K (.ref A.NoDeed) (.ref A.NoKind) = some false
  j_NoDeed_NoLine : PySem.W.kitOne K (.ref A.NoDeed) (.ref A.NoLine) = some false
  j_NoDeed_NoSize : PySem.W.kitOne K (.ref A.NoDeed) (.ref A.NoSize) = some false
  j_NoDeed_NoSources : PySem.W.kitOne K (.ref A.NoDeed) (.ref A.NoSources) = some false
  j_NoDeed_NoText : PySem.W.kitOne K (.ref A.NoDeed) (.ref A.NoText) = some false
  j_NoDeed_NoValues : PySem.W.kitOne K (.ref A.NoDeed) (.ref A.NoValues) = some false
  j_NoDeed_Ringed : PySem.W.kitOne K (.ref A.NoDeed) (.ref A.Ringed) = some false
  m_NoText_SignalError : PySem.W.exmOne K (.ref A.NoText) (.ref A.SignalError) = some true
  e_NoText : ExcC K A.NoText
  v_NoText : PySem.W.kitOne K (.ref A.NoText) (.type "ValueError") = some true
  j_NoText_NoDeed : PySem.W.kitOne K (.ref A.NoText) (.ref A.NoDeed) = some false
  j_NoText_NoDelay : PySem.W.kitOne K (.ref A.NoText) (.ref A.NoDelay) = some false
  j_NoText_NoKind : PySem.W.kitOne K (.ref A.NoText) (.ref A.NoKind) = some false
  j_NoText_NoLine : PySem.W.kitOne K (.ref A.NoText) (.ref A.NoLine) = some false
  j_NoText_NoSize : PySem.W.kitOne K (.ref A.NoText) (.ref A.NoSize) = some false
  j_NoText_NoSources : PySem.W.kitOne K (.ref A.NoText) (.ref A.NoSources) = some false
  j_NoText_NoText : PySem.W.kitOne K (.ref A.NoText) (.ref A.NoText) = some true
  j_NoText_NoValues : PySem.W.kitOne K (.ref A.NoText) (.ref A.NoValues) = some false
  j_NoText_Ringed : PySem.W.kitOne K (.ref A.NoText) (.ref A.Ringed) = some false

local macro_rules | `(tactic| walk_at "cl") => `(tactic| first | exact ClsV.ty _ | exact ClsV.own _)
local macro_rules | `(tactic| walk_at "ty") => `(tactic| first | exact .base (.int _) | exact .base (.bl _) | exact .base (.str _) | exact .base .non | exact ty_list (by with_reducible assumption) | exact ty_tuple (by with_reducible assumption))
local macro_rules | `(tactic| walk_at "sd") => `(tactic| first | with_reducible assumption | rfl | omega | decide)
local macro_rules | `(tactic| walk_at "rv") => `(tactic| first
  | with_reducible exact rv_I0
  | ((with_reducible refine' rv_I ?c); (case c => first | omega | exact ⟨by omega, by omega⟩ | exact Or.inr ⟨by omega, by omega⟩ | exact Or.inl ⟨by omega, by omega⟩ | walk_at "sd"))
  | with_reducible exact rv_eqI
  | with_reducible exact rv_eqS
  | with_reducible exact rv_eqB
  | with_reducible exact rv_neI
  | with_reducible exact rv_neS
  | with_reducible exact rv_neB
  | with_reducible exact rv_notN
  | with_reducible exact rv_isN
  | ((with_reducible refine' rv_ixL ?a ?b); (case a => walk_at "sd"); (case b => walk_at "sd"))
  | ((with_reducible refine' rv_ixT ?a ?b); (case a => walk_at "sd"); (case b => walk_at "sd")))
local macro_rules | `(tactic| walk_at "ev") => `(tactic| first
  | with_reducible exact ev_c
  | ((with_reducible refine' ev_var ?a); (case a => rfl))
  | with_reducible assumption
  | ((with_reducible refine' ev_op ?a ?b ?c); (case a => walk_at "ev"); (case b => walk_at "ev"); (case c => walk_at "rv"))
  | ((with_reducible refine' ev_un ?a ru_neg); (case a => walk_at "ev"))
  | ((with_reducible refine' ev_callS ?a ?b); (case a => walk_at "ea"); (case b => walk_at "sv"))
  | ((with_reducible refine' ev_chI ?a ?b ?c); (case a => walk_at "ev"); (case b => walk_at "ev"); (case c => walk_at "ev"))
  | ((with_reducible refine' ev_len ?a ?b); (case a => walk_at "ev"); (case b => walk_at "sd"))
  | ((with_reducible refine' ev_lenT ?a ?b); (case a => walk_at "ev"); (case b => walk_at "sd"))
  | ((with_reducible refine' ev_isi ?a ?b ?c ?d ?e); (case a => walk_at "ev"); (case b => walk_at "ev"); (case c => walk_at "cl"); (case d => walk_at "ty"); (case e => exact kit_ty (by decide +kernel)))
  | ((with_reducible refine' ev_andV ?a (fun _ => ?b)); (case a => walk_at "ev"); (case b => walk_at "ev"))
  | ((with_reducible refine' ev_orV ?a (fun _ => ?b)); (case a => walk_at "ev"); (case b => walk_at "ev"))
  | ((with_reducible refine' ev_notV ?a); (case a => walk_at "ev"))
  | ((with_reducible refine' ev_all ?a ?b); (case a => walk_at "ev"); (case b => walk_at "sd"))
  | ((with_reducible refine' ev_any ?a ?b); (case a => walk_at "ev"); (case b => walk_at "sd")))
local macro_rules | `(tactic| walk_at "et") => `(tactic| first
  | ((with_reducible refine' et_test ?a); (case a => walk_at "ev"))
  | ((with_reducible refine' et_B ?a); (case a => walk_at "ev"))
  | ((with_reducible refine' et_not ?a); (case a => walk_at "et"))
  | ((with_reducible refine' et_and ?a (fun _ => ?b)); (case a => walk_at "et"); (case b => walk_at "et"))
  | ((with_reducible refine' et_or ?a (fun _ => ?b)); (case a => walk_at "et"); (case b => walk_at "et"))
  | with_reducible assumption)
local macro_rules | `(tactic| walk_at "ea") => `(tactic| first
  | with_reducible exact ea_nil
  | ((with_reducible refine' ea_cons ?a ?b); (case a => walk_at "ev"); (case b => walk_at "ea")))
local macro_rules | `(tactic| walk_at "try") => `(tactic| (refine go_raw fun _ e_ => ?_; dsimp only; refine Go.app ?_ e_; clear e_))

section
variable {P : Program} {w : World} {K : PySem.W.Frag} {mg : Str → Option Value} {base : Heap} {A : Ads}
def sp_l_cell_at (K : PySem.W.Frag) (A : Ads) : Sp := fun vs H Q E => ∃ a ns k, vs = [.ref a, .int k] ∧ SqL K H a (ns.map V.int) ∧ 0 ≤ k ∧ RetV (.int (cell ns k)) H Q
theorem sv_cell_at {K : PySem.W.Frag} {A : Ads} {G : Hp} {a : Addr} {ns : List Int} {k : Int} (h : SqL K G a (ns.map V.int)) (h0 : 0 ≤ k) : SpV (sp_l_cell_at K A) [.ref a, .int k] G (.int (cell ns k)) := fun _ e _ q _ =>
  ⟨a, ns, k, rfl, ex_l e h, h0, q⟩
theorem ok_l_cell_at {f : Addr} {fd : FuncData} (F : Fun K "_law_cell_at" "_law_cell_at" s_l_cell_at f fd) (T : Txt K w mg A)  : FnOk P w K mg base (L2.CX P w) 1 f fd ["_law_script", "_law_k"] (sp_l_cell_at K A) := by
  refine F.okX sc_l_cell_at (fun vs H Q E h => ?_) (fun cdv A_ outer s H vs Q E hr h => ?_)
  · obtain ⟨a, ns, k, rfl, _⟩ := h; rfl
  · obtain ⟨a, ns, k, rfl, hS, h0, q⟩ := h
    refine ⟨_, (pss_cons (ps_if (pt_cmpR op_lt (pv 1) (pe_callB (c_len K) (by rfl) T.n_len PySem.boot_len (pa_cons (pv 0) pa_nil)) (nomark _)) (pss_cons (ps_ret (pe_ix (ixL K) (pv 0) (pv 1) (fun _ _ => rfl))) pss_nil) pss_nil) (pss_cons (ps_ret pe_int) pss_nil)), ?_⟩
    try dsimp only [cxOf, Cx.blk]
    refine Go.start (σ := [some (.ref a), some (.int k)]) ?_
    have hl : (ns.map V.int).length = ns.length := List.length_map _
    refine go_when (b := decide (k < (ns.length : Int))) (et_test (ev_is (ev_op (by walk_at "ev") (ev_len (ev_var rfl) hS) rv_I0) (by rw [hl]))) (fun h => ?_) (fun h => ?_)
    · have h1 : k < ns.length := of_decide_eq_true h
      exact go_ret (ev_op (ev_var rfl) (ev_var rfl) (rv_ixL hS (at_map V.int ns 0 h0 h1))) fun H1 e1 => q H1 e1
    · have h1 : ¬ k < ns.length := of_decide_eq_false h
      refine go_ret ev_c fun H1 e1 => ?_
      have e2 : cell ns k = 0 := by
        unfold cell
        rw [List.getD_eq_getElem?_getD, List.getElem?_eq_none (by omega)]; rfl
      have q2 := q H1 e1
      rw [e2] at q2
      exact q2

end
local macro_rules | `(tactic| walk_at "sv") => `(tactic| exact sv_cell_at (by walk_at "sd") (by walk_at "sd"))

section
variable {P : Program} {w : World} {K : PySem.W.Frag} {mg : Str → Option Value} {base : Heap} {A : Ads}
def sp_l_many (K : PySem.W.Frag) (A : Ads) : Sp := fun vs H Q E => ∃ c : Int, vs = [.int c] ∧ RetV (.int (manyOf c)) H Q
theorem sv_many {K : PySem.W.Frag} {A : Ads} {G : Hp} {c : Int} : SpV (sp_l_many K A) [.int c] G (.int (manyOf c)) := fun _ e _ q _ => ⟨c, rfl, q⟩
theorem ok_l_many {f : Addr} {fd : FuncData} (F : Fun K "_law_many" "_law_many" s_l_many f fd) (T : Txt K w mg A)  : FnOk P w K mg base (L2.CX P w) 1 f fd ["_law_cell"] (sp_l_many K A) := by
  refine F.okX sc_l_many (fun vs H Q E h => ?_) (fun cdv A_ outer s H vs Q E hr h => ?_)
  · obtain ⟨c, rfl, _⟩ := h; rfl
  · obtain ⟨c, rfl, q⟩ := h
    refine ⟨_, (pss_cons (ps_if (pt_cmpR op_eq (pe_op op_mod (pe_op op_fdiv (pv 0) pe_int) pe_int) pe_int (nomark _)) (pss_cons (ps_ret (pe_op op_add pe_int (pe_op op_mod (pe_op op_fdiv (pv 0) pe_int) pe_int))) pss_nil) pss_nil) (pss_cons (ps_if (pt_cmpR op_eq (pe_op op_mod (pe_op op_fdiv (pv 0) pe_int) pe_int) pe_int (nomark _)) (pss_cons (ps_ret (pe_op op_add pe_int (pe_op op_mod (pe_op op_fdiv (pv 0) pe_int) pe_int))) pss_nil) pss_nil) (pss_cons (ps_ret (pe_op op_mod (pv 0) pe_int)) pss_nil))), ?_⟩
    try dsimp only [cxOf, Cx.blk]
    refine Go.start (σ := [some (.int c)]) ?_
    refine go_when (by walk_at "et") (fun h => ?_) (fun h => ?_)
    · refine go_ret (by walk_at "ev") fun H1 e1 => ?_
      have := q H1 e1
      unfold manyOf at this
      rw [if_pos (of_decide_eq_true h)] at this
      exact this
    have h1 := of_decide_eq_false h
    refine go_when (by walk_at "et") (fun h => ?_) (fun h => ?_)
    · refine go_ret (by walk_at "ev") fun H1 e1 => ?_
      have := q H1 e1
      unfold manyOf at this
      rw [if_neg h1, if_pos (of_decide_eq_true h)] at this
      exact this
    · refine go_ret (by walk_at "ev") fun H1 e1 => ?_
      have := q H1 e1
      unfold manyOf at this
      rw [if_neg h1, if_neg (of_decide_eq_false h)] at this
      exact this

end
local macro_rules | `(tactic| walk_at "sv") => `(tactic| exact sv_many)

section
variable {P : Program} {w : World} {K : PySem.W.Frag} {mg : Str → Option Value} {base : Heap} {A : Ads}
def sp_l_mixed (K : PySem.W.Frag) (A : Ads) : Sp := fun vs H Q E => ∃ c k m : Int, vs = [.int c, .int k, .int m] ∧ 0 < m ∧ RetV (.int (mixed c k m)) H Q
theorem sv_mixed {K : PySem.W.Frag} {A : Ads} {G : Hp} {c k m : Int} (h : 0 < m) : SpV (sp_l_mixed K A) [.int c, .int k, .int m] G (.int (mixed c k m)) := fun _ e _ q _ => ⟨c, k, m, rfl, h, q⟩
theorem ok_l_mixed {f : Addr} {fd : FuncData} (F : Fun K "_law_mixed" "_law_mixed" s_l_mixed f fd) (T : Txt K w mg A)  : FnOk P w K mg base (L2.CX P w) 1 f fd ["_law_cell", "_law_k", "_law_many_here"] (sp_l_mixed K A) := by
  refine F.okX sc_l_mixed (fun vs H Q E h => ?_) (fun cdv A_ outer s H vs Q E hr h => ?_)
  · obtain ⟨c, k, m, rfl, _⟩ := h; rfl
  · obtain ⟨c, k, m, rfl, hm, q⟩ := h
    refine ⟨_, (pss_cons (ps_set (i := 3) sc_l_mixed.nd rfl (.inl rfl) (pe_lst (pa_cons pe_int (pa_cons pe_int (pa_cons pe_int (pa_cons pe_int (pa_cons pe_int (pa_cons pe_int (pa_cons pe_int (pa_cons pe_int (pa_cons pe_int (pa_cons pe_int (pa_cons pe_int pa_nil))))))))))))) (pss_cons (ps_ret (pe_op op_mod (pe_op op_mod (pe_op op_mul (pe_op op_add (pv 0) (pe_op op_mul pe_int (pv 1))) pe_int) (pe_ix (ixL K) (pv 3) (pe_op op_mod (pv 1) pe_int) (fun _ _ => rfl))) (pv 2))) pss_nil)), ?_⟩
    try dsimp only [cxOf, Cx.blk]
    refine Go.start (σ := [some (.int c), some (.int k), some (.int m), none]) ?_
    refine go_asgL (el_lst (by walk_at "ea") (by show 11 ≤ 100000; decide)) fun p hp => ?_
    have k0 : 0 ≤ k % 11 := by omega
    have k1 : k % 11 < 11 := by omega
    have hL : SqL K (upd H p (.lst (some11.map V.int))) p (some11.map V.int) := sq_of upd_same
    have ha : atI (some11.map V.int) (k % 11) = some (.int (some11.getD (k % 11).toNat 0)) := at_map V.int some11 0 k0 k1
    have hp11 := some11_pos k0 k1
    refine Go.weak (ex_of_eq (show upd H p (.lst (some11.map V.int)) = _ from rfl)) ?_
    refine go_ret (by walk_at "ev") fun H1 e1 => ?_
    exact q H1 ((Ex.new hp).trans e1)

end
local macro_rules | `(tactic| walk_at "sv") => `(tactic| exact sv_mixed (by walk_at "sd"))

section
variable {P : Program} {w : World} {K : PySem.W.Frag} {mg : Str → Option Value} {base : Heap} {A : Ads}
def sp_l_gate_by (K : PySem.W.Frag) (A : Ads) : Sp := fun vs H Q E => ∃ c b m : Int, vs = [.int c, .int b, .int m] ∧ 0 ≤ b ∧ 0 < m ∧ ∀ v H', Ex H H' → GateAt K H' v (gateBy c b m) → Q v H'
theorem sg_gate_by {K : PySem.W.Frag} {A : Ads} {G : Hp} {c b m : Int} (h : 0 ≤ b) (h2 : 0 < m) : SpG (sp_l_gate_by K A) [.int c, .int b, .int m] G fun v G' => GateAt K G' v (gateBy c b m) := fun H e Q _ q =>
  ⟨c, b, m, rfl, h, h2, fun v H' e' g => q v H' H' (e.trans e') (Ex.refl _) e' g⟩
theorem ok_l_gate_by {f : Addr} {fd : FuncData} (F : Fun K "_law_gate_by" "_law_gate_by" s_l_gate_by f fd) (T : Txt K w mg A) (c_l_mixed : CalX P w K mg base 1 "_law_mixed" (sp_l_mixed K A)) : FnOk P w K mg base (L2.CX P w) 2 f fd ["_law_cell", "_law_below", "_law_most"] (sp_l_gate_by K A) := by
  refine F.okX sc_l_gate_by (fun vs H Q E h => ?_) (fun cdv A_ outer s H vs Q E hr h => ?_)
  · obtain ⟨c, b, m, rfl, _⟩ := h; rfl
  · obtain ⟨c, b, m, rfl, hb, hm, q⟩ := h
    refine ⟨_, (pss_cons (ps_set (i := 3) sc_l_gate_by.nd rfl (.inl rfl) (pe_ix (ixL K) (pe_lst (pa_cons pe_int (pa_cons pe_int (pa_cons pe_int (pa_cons pe_int (pa_cons pe_int (pa_cons pe_int (pa_cons pe_int (pa_cons pe_int (pa_cons pe_int (pa_cons pe_int (pa_cons pe_int (pa_cons pe_int pa_nil))))))))))))) (pe_op op_mod (pv 0) pe_int) (fun _ _ => rfl))) (pss_cut (ps_if (pt_cmpR op_eq (pv 1) pe_int (nomark _)) (pss_cons (ps_set (i := 3) sc_l_gate_by.nd rfl (.inl rfl) (pe_op op_mod (pv 0) pe_int)) pss_nil) pss_nil) (pss_cons (ps_set (i := 4) sc_l_gate_by.nd rfl (.inl rfl) (pe_ix (ixL K) (pe_lst (pa_cons pe_int (pa_cons pe_int (pa_cons pe_int (pa_cons pe_int (pa_cons pe_int (pa_cons pe_int (pa_cons pe_int (pa_cons pe_int (pa_cons pe_int pa_nil)))))))))) (pv 3) (fun _ _ => rfl))) (pss_cut (ps_if (pt_cmpR op_eq (pv 4) pe_int (nomark _)) (pss_cons (ps_set (i := 4) sc_l_gate_by.nd rfl (.inl rfl) (pe_ix (ixL K) (pe_lst (pa_cons pe_int (pa_cons pe_int (pa_cons pe_int (pa_cons pe_int (pa_cons pe_int (pa_cons pe_int (pa_cons pe_int (pa_cons pe_int (pa_cons pe_int pa_nil)))))))))) (pe_cx c_l_mixed hr (by decide) rfl (takes_of rfl rfl rfl rfl) (pa_cons (pv 0) (pa_cons pe_int (pa_cons pe_int pa_nil)))) (fun _ _ => rfl))) pss_nil) pss_nil) (pss_cons (ps_setLc (i := 5) (own := [("_law_k", 7)]) (g := gName 7) (tt := tYes) rfl sc_l_gate_by.nd rfl rfl (sw_true rfl rfl rfl (by decide +kernel)) (pi_range1 rfl T.n_range (pa_cons (pv 4) pa_nil)) (blkOk_by (own := [("_law_k", 7)]) (N := ["_law_cell", "_law_below", "_law_most", "_law_way", "_law_many_here", "_law_sources", "_law_kind", "_law_k"]) (sc := defScope s_l_gate_by) (by decide +kernel)) (fun _ _ _ _ _ => pg_name (i := 7) sc_l_gate_by.nd rfl (Or.inl rfl)) (fun _ _ _ _ _ => pts_nil) (fun _ _ _ _ _ => (pe_cx c_l_mixed hr (by decide) rfl takes0 (pa_cons (pe_op op_fdiv (pv 0) pe_int) (pa_cons (pv 7) (pa_cons (pv 1) pa_nil)))))) (pss_cut (ps_if (PW.pt (pw_and (pt_cmpR op_gt (pv 4) pe_int (nomark _)) (pw_and1 (pt_cmpR op_eq (pe_op op_mod (pe_op op_fdiv (pv 0) pe_int) pe_int) pe_int (nomark _))))) (pss_cons (ps_asg (pe_op op_sub (pv 1) pe_int) (pg_sub (pv 5) pe_int set_list)) pss_nil) pss_nil) (pss_cons (ps_set (i := 6) sc_l_gate_by.nd rfl (.inl rfl) (pe_ix (ixL K) (pe_lst (pa_cons pe_str (pa_cons pe_str (pa_cons pe_str (pa_cons pe_str (pa_cons pe_str (pa_cons pe_str (pa_cons pe_str (pa_cons pe_str (pa_cons pe_str pa_nil)))))))))) (pv 3) (fun _ _ => rfl))) (pss_cons (ps_ret (pe_tup (pa_cons (pv 6) (pa_cons (pe_callTy (c_tup K) (by rfl) T.n_tuple (by decide +kernel) (pa_cons (pv 5) pa_nil)) (pa_cons (pe_op op_add pe_int (pe_cx c_l_mixed hr (by decide) rfl (takes_of rfl rfl rfl rfl) (pa_cons (pv 0) (pa_cons pe_int (pa_cons (pv 2) pa_nil))))) pa_nil))))) pss_nil)))))))), ?_⟩
    try dsimp only [cxOf, Cx.blk]
    refine Go.start (σ := [some (.int c), some (.int b), some (.int m), none, none, none, none, none]) ?_
    have c0 : 0 ≤ c % 12 := by omega
    have c1 : c % 12 < 12 := by omega
    refine go_asg (ev_ixLit (el_lst (by walk_at "ea") (by show 12 ≤ 100000; decide)) (by walk_at "ev") (by exact at_map V.int ways12 0 c0 c1)) ?_
    refine go_cut (fun σ' G' => σ' = [some (.int c), some (.int b), some (.int m), some (.int (wayOf c b)), none, none, none, none] ∧ H = G') (go_ifs (by walk_at "et") (fun h => ?_) (fun h => ?_)) ?_
    · exact go_asg (by walk_at "ev") (go_kn ⟨by unfold wayOf; rw [if_pos (of_decide_eq_true h)]; rfl, rfl⟩)
    · exact go_kn ⟨by unfold wayOf; rw [if_neg (of_decide_eq_false h)]; rfl, rfl⟩
    rintro σ' G' ⟨rfl, rfl⟩
    obtain ⟨w0, w9, w2⟩ := wayOf_in c (below := b)
    obtain ⟨n0, n9, n2, _⟩ := cntOf_in c w0 w9
    have hl := lo9_in' w0 w9
    have hmx := mixed_in (c := c) (k := 9) (m := 9) (by decide)
    refine go_asg (ev_ixLit (el_lst (by walk_at "ea") (by show 9 ≤ 100000; decide)) (by walk_at "ev") (by exact at_map V.int lo9 0 w0 w9)) ?_
    refine go_cut (fun σ' G' => σ' = [some (.int c), some (.int b), some (.int m), some (.int (wayOf c b)), some (.int (cntOf c (wayOf c b))), none, none, none] ∧ H = G') (go_ifs (by walk_at "et") (fun h => ?_) (fun h => ?_)) ?_
    · refine go_asg (ev_ixLit (el_lst (by walk_at "ea") (by show 9 ≤ 100000; decide)) (by walk_at "ev") (by exact at_map V.int cnt9 0 hmx.1 hmx.2)) ?_
      exact go_kn ⟨by unfold cntOf; rw [if_pos (of_decide_eq_true h)]; rfl, rfl⟩
    · exact go_kn ⟨by unfold cntOf; rw [if_neg (of_decide_eq_false h)]; rfl, rfl⟩
    rintro σ' G' ⟨rfl, rfl⟩
    generalize hwy : wayOf c b = wy at *
    generalize hn : cntOf c wy = n at *
    have b1 : 0 < n → 0 < b := fun h => by
      by_cases z : b = 0
      · have := n2 (w2 z); omega
      · omega
    refine go_asgL (xs := ((List.range n.toNat).map fun k : Nat => mixed (c / 12) k b).map V.int) (by
      rw [List.map_map]
      exact el_lcR (σ := [some (.int c), some (.int b), some (.int m), some (.int wy), some (.int n), none, none, none]) (vs := [7]) (j := 7) (n := n) (fun k => .int (mixed (c / 12) k b)) (by walk_at "ea") ⟨n0, by omega⟩ (fun _ => rfl)
        (fun k k0 k1 => by have := b1 (by omega); walk_at "ev")) fun p hp => ?_
    refine go_cut (fun σ' G' => σ' = [some (.int c), some (.int b), some (.int m), some (.int wy), some (.int n), some (.ref p), none, none] ∧ upd H p (.lst ((srcsOf c b n).map V.int)) = G') (go_ifs (by walk_at "et") (fun h => ?_) (fun h => ?_)) ?_
    · have h2 : 0 < n ∧ c / 12 % 2 = 1 := by simpa only [Bool.and_eq_true, decide_eq_true_eq] using h
      refine go_setL (l := p) (j := 0) (v := .int (b - 1)) (by walk_at "ev") (by walk_at "ev") upd_same (ev_is ev_c rfl) (by rw [List.length_map, List.length_map, List.length_range]; omega) ?_
      exact go_kn ⟨rfl, by rw [upd_upd]; unfold srcsOf; simp only [if_pos h2]; rw [List.map_set]⟩
    · have h2 : ¬ (0 < n ∧ c / 12 % 2 = 1) := fun ⟨p, q⟩ => by simp [p, q] at h
      exact go_kn ⟨rfl, by unfold srcsOf; simp only [if_neg h2]⟩
    rintro σ' G' ⟨rfl, rfl⟩
    have hL : SqL K (upd H p (.lst ((srcsOf c b n).map V.int))) p ((srcsOf c b n).map V.int) := sq_of upd_same
    refine go_asg (ev_ixLit (el_lst (by walk_at "ea") (by show 9 ≤ 100000; decide)) (by walk_at "ev") (by exact at_map V.str kinds9 "" w0 w9)) ?_
    refine go_retP (ep_gate (K := K) (by walk_at "ev") (eu_tupL (by walk_at "ev") hL) (by walk_at "ev")) fun v G' H1 e1 e2 hg => ?_
    refine q v H1 (((Ex.new hp).trans e1).trans e2) (hg.mono e2 |> fun h => ?_)
    unfold gateBy
    rw [hwy, hn]
    exact h

end

section
variable {P : Program} {w : World} {K : PySem.W.Frag} {mg : Str → Option Value} {base : Heap} {A : Ads}
def sp_l_loose (K : PySem.W.Frag) (A : Ads) : Sp := fun vs H Q E => ∃ (a : Addr) (ns : List Int) (many most : Int), vs = [.ref a, .int many, .int most] ∧ SqL K H a (ns.map V.int) ∧ ns.length ≤ 63 ∧ 0 ≤ many ∧ 0 < most ∧
  ∀ v H', Ex H H' → PlanAt K H' v (looseP ns many most) → Q v H'
theorem sg_loose {K : PySem.W.Frag} {A : Ads} {G : Hp} {a : Addr} {ns : List Int} {many most : Int} (h : SqL K G a (ns.map V.int)) (hn : ns.length ≤ 63) (h0 : 0 ≤ many) (h1 : 0 < most) :
    SpG (sp_l_loose K A) [.ref a, .int many, .int most] G fun v G' => PlanAt K G' v (looseP ns many most) := fun H e Q _ q =>
  ⟨a, ns, many, most, rfl, ex_l e h, hn, h0, h1, fun v H' e' hp => q v H' H' (e.trans e') (Ex.refl _) e' hp⟩
theorem ok_l_loose {f : Addr} {fd : FuncData} (F : Fun K "_law_loose" "_law_loose" s_l_loose f fd) (T : Txt K w mg A) (c_l_cell_at : CalX P w K mg base 1 "_law_cell_at" (sp_l_cell_at K A)) (c_l_gate_by : CalX P w K mg base 2 "_law_gate_by" (sp_l_gate_by K A)) : FnOk P w K mg base (L2.CX P w) 3 f fd ["_law_script", "_law_many_here", "_law_most"] (sp_l_loose K A) := by
  refine F.okX sc_l_loose (fun vs H Q E h => ?_) (fun cdv A_ outer s H vs Q E hr h => ?_)
  · obtain ⟨a, ns, many, most, rfl, _⟩ := h; rfl
  · obtain ⟨a, ns, many, most, rfl, hS, hlen, hm0, hmo, q⟩ := h
    refine ⟨_, (pss_cons (ps_set (i := 3) sc_l_loose.nd rfl (.inr rfl) (pe_slice (slL K) (pv 0) (po_some pe_int) (po_some pe_int))) (pss_cons (ps_set (i := 4) sc_l_loose.nd rfl (.inr rfl) (pe_cx c_l_cell_at hr (by decide) rfl (takes_of rfl rfl rfl rfl) (pa_cons (pv 0) (pa_cons pe_int pa_nil)))) (pss_cons (ps_if (pt_cmpR op_eq (pe_op op_mod (pv 4) pe_int) pe_int (nomark _)) (pss_cons (ps_set (i := 5) sc_l_loose.nd rfl (.inr rfl) (pe_op op_add pe_int (pe_op op_mod (pe_op op_fdiv (pv 4) pe_int) pe_int))) (pss_cons (ps_setLc (i := 6) (own := [("_law_k", 7)]) (g := gName 7) (tt := tYes) rfl sc_l_loose.nd rfl rfl (sw_true rfl rfl rfl (by decide +kernel)) (pi_range1 rfl T.n_range (pa_cons (pv 5) pa_nil)) (blkOk_by (own := [("_law_k", 7)]) (N := ["_law_script", "_law_many_here", "_law_most", "_law_cells", "_law_far", "_law_count", "_law_ringed", "_law_k", "_law_cell"]) (sc := defScope s_l_loose) (by decide +kernel)) (fun _ _ _ _ _ => pg_name (i := 7) sc_l_loose.nd rfl (Or.inl rfl)) (fun _ _ _ _ _ => pts_nil) (fun _ _ _ _ _ => (pe_tup (pa_cons pe_str (pa_cons (pe_tup (pa_cons (pe_op op_add (pv 1) (pe_op op_mod (pe_op op_add (pv 7) pe_int) (pv 5))) pa_nil)) (pa_cons pe_int pa_nil)))))) (pss_cons (ps_ret (pe_tup (pa_cons (pv 1) (pa_cons (pe_op op_cat (pv 6) (pe_lc (own := [("_law_cell", 8)]) (g := gName 8) (tt := tYes) rfl sc_l_loose.nd (pi_L K (pe_slice (slL K) (pv 0) (po_some pe_int) (po_some pe_int))) (blkOk_by (own := [("_law_cell", 8)]) (N := ["_law_script", "_law_many_here", "_law_most", "_law_cells", "_law_far", "_law_count", "_law_ringed", "_law_k", "_law_cell"]) (sc := defScope s_l_loose) (by decide +kernel)) (fun _ _ _ _ _ => pg_name (i := 8) sc_l_loose.nd rfl (Or.inl rfl)) (fun _ _ _ _ _ => pts_nil) (fun _ _ _ _ _ => (pe_cx c_l_gate_by hr (by decide) rfl takes0 (pa_cons (pv 8) (pa_cons (pe_op op_add (pv 1) (pv 5)) (pa_cons (pv 2) pa_nil))))))) pa_nil)))) pss_nil))) pss_nil) (pss_cut (ps_if (pt_cmpR op_eq (pe_op op_mod (pv 4) pe_int) pe_int (nomark _)) (pss_cons (ps_set (i := 3) sc_l_loose.nd rfl (.inr rfl) (pe_op op_cat (pe_lc (own := [("_law_k", 7)]) (g := gName 7) (tt := tYes) rfl sc_l_loose.nd (pi_range1 rfl T.n_range (pa_cons (pe_op op_add pe_int (pe_op op_mod (pe_op op_fdiv (pv 4) pe_int) pe_int)) pa_nil)) (blkOk_by (own := [("_law_k", 7)]) (N := ["_law_script", "_law_many_here", "_law_most", "_law_cells", "_law_far", "_law_count", "_law_ringed", "_law_k", "_law_cell"]) (sc := defScope s_l_loose) (by decide +kernel)) (fun _ _ _ _ _ => pg_name (i := 7) sc_l_loose.nd rfl (Or.inl rfl)) (fun _ _ _ _ _ => pts_nil) (fun _ _ _ _ _ => (pe_op op_add (pe_op op_fdiv (pv 4) pe_int) (pe_op op_mul pe_int (pv 7))))) (pe_slice (slL K) (pv 0) (po_some pe_int) (po_some pe_int)))) pss_nil) pss_nil) (pss_cons (ps_ret (pe_tup (pa_cons (pv 1) (pa_cons (pe_lc (own := [("_law_cell", 8)]) (g := gName 8) (tt := tYes) rfl sc_l_loose.nd (pi_L K (pv 3)) (blkOk_by (own := [("_law_cell", 8)]) (N := ["_law_script", "_law_many_here", "_law_most", "_law_cells", "_law_far", "_law_count", "_law_ringed", "_law_k", "_law_cell"]) (sc := defScope s_l_loose) (by decide +kernel)) (fun _ _ _ _ _ => pg_name (i := 8) sc_l_loose.nd rfl (Or.inl rfl)) (fun _ _ _ _ _ => pts_nil) (fun _ _ _ _ _ => (pe_cx c_l_gate_by hr (by decide) rfl takes0 (pa_cons (pv 8) (pa_cons (pe_op op_add (pv 1) (pe_callB (c_len K) (by rfl) T.n_len PySem.boot_len (pa_cons (pv 3) pa_nil))) (pa_cons (pv 2) pa_nil)))))) pa_nil)))) pss_nil))))), ?_⟩
    try dsimp only [cxOf, Cx.blk]
    refine Go.start (σ := [some (.ref a), some (.int many), some (.int most), none, none, none, none, none, none]) ?_
    have sl : ∀ (σ : L2.St) (G : Hp) (hi : Nat), σ[0]? = some (some (.ref a)) → Ex H G → 3 ≤ hi → EvL (tSl (rSlL K) (tVar 0) (tPart (tC (.int 3))) (tPart (tC (.int (hi : Int))))) σ G (((ns.drop 3).take (hi - 3)).map V.int) := fun σ G hi h0 e h3 => by
      have q := el_sl (K := K) (σ := σ) (H := G) (te := tVar 0) (tl := tPart (tC (.int 3))) (th := tPart (tC (.int (hi : Int)))) (ev_var h0) (eo_some ev_c) (eo_some ev_c) (ex_l e hS)
      rw [show cutV (ns.map V.int) (some 3) (some (hi : Int)) = ((ns.drop 3).take (hi - 3)).map V.int by rw [List.map_take, List.map_drop]; exact cut_nat (a := 3) (b := hi) h3] at q
      exact q
    refine go_asgL (sl _ H 203 rfl (Ex.refl _) (by decide)) fun pc hpc => ?_
    have e1 : Ex H (upd H pc (.lst (((ns.drop 3).take 200).map V.int))) := Ex.new hpc
    have hS1 := ex_l e1 hS
    have hc1 : SqL K (upd H pc (.lst (((ns.drop 3).take 200).map V.int))) pc (((ns.drop 3).take 200).map V.int) := sq_of upd_same
    show Go _ _ _ (upd H pc (.lst (((ns.drop 3).take 200).map V.int)))
    generalize upd H pc (.lst (((ns.drop 3).take 200).map V.int)) = G1 at *
    refine go_asg (v := .int (cell ns 1)) (by walk_at "ev") ?_
    refine go_when (b := decide (cell ns 1 % 8 = 2)) (by walk_at "et") (fun h => ?_) (fun h => ?_)
    · have h2 : cell ns 1 % 8 = 2 := of_decide_eq_true h
      refine go_asg (v := .int (60 + cell ns 1 / 8 % 131)) (by walk_at "ev") ?_
      generalize hn : 60 + cell ns 1 / 8 % 131 = n
      have n0 : 60 ≤ n := by omega
      have n1 : n ≤ 190 := by omega
      refine go_asgP (ep_lcPR (n := n) (R := GateAt K) (fun k => ⟨"not", [many + (k + 1) % n], 1⟩) (lasts_gate K) (by walk_at "ea") (by omega) (fun _ => rfl) fun k k0 k1 => ?_) fun v G2 e2 hv => ?_
      · refine ep_gate (ss := [many + (k + 1) % n]) ev_c ?_ ev_c
        exact eu_tup (ea_cons (ev_op (ev_var rfl) (ev_op (ev_op (ev_var rfl) ev_c rv_I0) (ev_var rfl) (rv_I (by show 0 < n; omega))) rv_I0) ea_nil) (by show 1 ≤ 100000; decide)
      · obtain ⟨pr, wr, rfl, hpr, hG2, hR2⟩ := hv
        have eH2 := e1.trans e2
        refine go_retP (ep_planP (p := looseP ns many most) (ev_var rfl) ?_) fun v G' H1 g1 g2 hp => q v H1 ((eH2.trans g1).trans g2) (hp.mono g2)
        have el := sl ([some (.ref a), some (.int many), some (.int most), some (.ref pc), some (.int (cell ns 1)), some (.int n), some (.ref pr), none, none]) G2 13 rfl eH2 (by decide)
        have hgl : (looseP ns many most).gates = (((List.range n.toNat).map fun i : Nat => (⟨"not", [many + ((i : Int) + 1) % n], 1⟩ : Gate)) ++ ((ns.drop 3).take 10).map fun c => gateBy c (many + n) most) := by
          show looseGates ns many most = _
          unfold looseGates ringGates
          rw [if_pos h2, hn]
        rw [hgl]
        refine ep_catR (lasts_gate K) (ev_var rfl) hG2 hR2 (ep_lcPN ((ns.drop 3).take 10) V.int (fun c => gateBy c (many + n) most) (lasts_gate K) el (by rw [List.length_take]; omega) (fun _ => rfl) fun c hc => ?_) (by simp only [List.length_map, List.length_range, List.length_take]; omega)
        exact ep_call (vs := [.int c, .int (many + n), .int most]) (ea_cons (ev_var rfl) (ea_cons (ev_op (ev_var rfl) (ev_var rfl) rv_I0) (ea_cons (ev_var rfl) ea_nil))) (sg_gate_by (by omega) hmo)
    have h2 : ¬ cell ns 1 % 8 = 2 := of_decide_eq_false h
    have hgl : (looseP ns many most).gates = (looseCells ns).map fun c => gateBy c (many + (looseCells ns).length) most := by
      show looseGates ns many most = _
      unfold looseGates
      rw [if_neg h2]
    have hcl := looseCells_len hlen
    refine go_cut (fun σ' G' => ∃ pc, σ' = [some (.ref a), some (.int many), some (.int most), some (.ref pc), some (.int (cell ns 1)), none, none, none, none] ∧ Ex H G' ∧ SqL K G' pc ((looseCells ns).map V.int)) (go_ifs (b := decide (cell ns 1 % 8 = 5)) (by walk_at "et") (fun h => ?_) (fun h => ?_)) ?_
    · have h5 : cell ns 1 % 8 = 5 := of_decide_eq_true h
      have el := sl ([some (.ref a), some (.int many), some (.int most), some (.ref pc), some (.int (cell ns 1)), none, none, none, none]) G1 13 rfl e1 (by decide)
      have ec : ((List.range (60 + cell ns 1 / 8 % 131).toNat).map fun i : Nat => V.int (cell ns 1 / 8 + 5 * (i : Int))) ++ ((ns.drop 3).take 10).map V.int = (looseCells ns).map V.int := by
        unfold looseCells
        rw [if_pos h5, List.map_append, List.map_map]
        rfl
      refine go_asgL (el_catN (el_lcR (n := 60 + cell ns 1 / 8 % 131) (fun k => .int (cell ns 1 / 8 + 5 * k)) (ea_cons (by walk_at "ev") ea_nil) (by omega) (fun _ => rfl) fun k k0 k1 => by walk_at "ev") el (by simp only [List.length_map, List.length_range, List.length_take]; omega)) fun p2 hp2 => ?_
      rw [ec]
      exact go_kn ⟨p2, rfl, e1.trans (Ex.new hp2), sq_of upd_same⟩
    · have h5 : ¬ cell ns 1 % 8 = 5 := of_decide_eq_false h
      refine go_kn ⟨pc, rfl, e1, ?_⟩
      unfold looseCells
      rw [if_neg h5]
      exact hc1
    · rintro σ' G2 ⟨pc2, rfl, e2, hc2⟩
      refine go_retP (ep_planP (p := looseP ns many most) (ev_var rfl) ?_) fun v G' H1 g1 g2 hp => q v H1 ((e2.trans g1).trans g2) (hp.mono g2)
      rw [hgl]
      refine ep_lcP (looseCells ns) V.int (fun c => gateBy c (many + (looseCells ns).length) most) (lasts_gate K) (ev_var rfl) hc2 (by omega) (fun _ => rfl) fun c hc => ?_
      have hl : Ev (tCB (rLenS K) (tCons (tVar 3) tNil)) ([some (.ref a), some (.int many), some (.int most), some (.ref pc2), some (.int (cell ns 1)), none, none, none, some (.int c)]) G2 (.int ((looseCells ns).length : Int)) := by
        have q := ev_len (K := K) (ta := tVar 3) (σ := [some (.ref a), some (.int many), some (.int most), some (.ref pc2), some (.int (cell ns 1)), none, none, none, some (.int c)]) (ev_var rfl) hc2
        rw [List.length_map] at q
        exact q
      exact ep_call (vs := [.int c, .int (many + (looseCells ns).length), .int most]) (ea_cons (ev_var rfl) (ea_cons (ev_op (ev_var rfl) hl rv_I0) (ea_cons (ev_var rfl) ea_nil))) (sg_gate_by (by omega) hmo)

end

section
variable {P : Program} {w : World} {K : PySem.W.Frag} {mg : Str → Option Value} {base : Heap} {A : Ads}
def sp_l_gates_by (K : PySem.W.Frag) (A : Ads) : Sp := fun vs H Q E => ∃ (a : Addr) (ns : List Int) (many most : Int), vs = [.ref a, .int many, .int most] ∧ SqL K H a (ns.map V.int) ∧ ns.length ≤ 63 ∧ 0 ≤ many ∧ 0 < most ∧
  ∀ g ws H', H g = none → Ex H H' → H' g = some (.lst ws) → Rows (GateAt K H') ws (gatesBy ns many most) → Q (.ref g) H'
theorem sg_gates_by {K : PySem.W.Frag} {A : Ads} {G : Hp} {a : Addr} {ns : List Int} {many most : Int} (h : SqL K G a (ns.map V.int)) (hn : ns.length ≤ 63) (h0 : 0 ≤ many) (h1 : 0 < most) :
    SpG (sp_l_gates_by K A) [.ref a, .int many, .int most] G fun v G' => ∃ g ws, v = .ref g ∧ G g = none ∧ G' g = some (.lst ws) ∧ Rows (GateAt K G') ws (gatesBy ns many most) := fun H e Q _ q =>
  ⟨a, ns, many, most, rfl, ex_l e h, hn, h0, h1, fun g ws H' hg e' hl hr => q _ H' H' (e.trans e') (Ex.refl _) e' ⟨g, ws, rfl, e.none hg, hl, hr⟩⟩
theorem ok_l_gates_by {f : Addr} {fd : FuncData} (F : Fun K "_law_gates_by" "_law_gates_by" s_l_gates_by f fd) (T : Txt K w mg A) (c_l_cell_at : CalX P w K mg base 1 "_law_cell_at" (sp_l_cell_at K A)) (c_l_gate_by : CalX P w K mg base 2 "_law_gate_by" (sp_l_gate_by K A)) : FnOk P w K mg base (L2.CX P w) 3 f fd ["_law_script", "_law_many_here", "_law_most"] (sp_l_gates_by K A) := by
  refine F.okX sc_l_gates_by (fun vs H Q E h => ?_) (fun cdv A_ outer s H vs Q E hr h => ?_)
  · obtain ⟨a, ns, many, most, rfl, _⟩ := h; rfl
  · obtain ⟨a, ns, many, most, rfl, hS, hlen, hm0, hmo, q⟩ := h
    refine ⟨_, (pss_cons (ps_set (i := 3) sc_l_gates_by.nd rfl (.inl rfl) (pe_lst pa_nil)) (pss_cons (ps_set (i := 4) sc_l_gates_by.nd rfl (.inl rfl) (pe_slice (slL K) (pv 0) (po_some pe_int) (po_some pe_int))) (pss_cons (ps_set (i := 5) sc_l_gates_by.nd rfl (.inl rfl) (pe_cx c_l_cell_at hr (by decide) rfl (takes_of rfl rfl rfl rfl) (pa_cons (pv 0) (pa_cons pe_int pa_nil)))) (pss_cut (ps_if (PW.pt (pw_or (pt_cmpR op_eq (pe_op op_mod (pv 5) pe_int) pe_int (nomark _)) (pw_or1 (pt_cmpR op_eq (pe_op op_mod (pv 5) pe_int) pe_int (nomark _))))) (pss_cons (ps_set (i := 4) sc_l_gates_by.nd rfl (.inl rfl) (pe_slice (slL K) (pv 0) (po_some pe_int) (po_some pe_int))) (pss_cons (ps_for (passes_of rfl) rfl (pi_range1 rfl T.n_range (pa_cons (pe_op op_add pe_int (pe_op op_mod (pe_op op_fdiv (pv 5) pe_int) pe_int)) pa_nil)) (pg_name (i := 6) sc_l_gates_by.nd rfl (.inl rfl)) (pss_cut (ps_if (PW.pt (pw_or (pt_cmpR op_eq (pe_op op_mod (pv 5) pe_int) pe_int (nomark _)) (pw_or1 (pt_cmpR op_eq (pe_op op_add (pv 1) (pv 6)) pe_int (nomark _))))) (pss_cons (ps_expr (pe_bm PySem.F.plainAttrs_list PySem.F.slot_list_append PySem.F.type_list_append mt_append (pv 3) (pa_cons (pe_cx c_l_gate_by hr (by decide) rfl (takes_of rfl rfl rfl rfl) (pa_cons (pe_op op_add (pe_op op_fdiv (pv 5) pe_int) (pe_op op_mul pe_int (pv 6))) (pa_cons (pe_op op_add (pv 1) (pv 6)) (pa_cons (pv 2) pa_nil)))) pa_nil))) pss_nil) (pss_cons (ps_expr (pe_bm PySem.F.plainAttrs_list PySem.F.slot_list_append PySem.F.type_list_append mt_append (pv 3) (pa_cons (pe_tup (pa_cons pe_str (pa_cons (pe_tup (pa_cons (pe_op op_sub (pe_op op_add (pv 1) (pv 6)) pe_int) pa_nil)) (pa_cons pe_int pa_nil)))) pa_nil))) pss_nil)) pss_nil)) pss_nil)) pss_nil) (pss_cons (ps_for (passes_of rfl) rfl (pi_L K (pv 4)) (pg_name (i := 7) sc_l_gates_by.nd rfl (.inl rfl)) (pss_cons (ps_expr (pe_bm PySem.F.plainAttrs_list PySem.F.slot_list_append PySem.F.type_list_append mt_append (pv 3) (pa_cons (pe_cx c_l_gate_by hr (by decide) rfl (takes_of rfl rfl rfl rfl) (pa_cons (pv 7) (pa_cons (pe_op op_add (pv 1) (pe_callB (c_len K) (by rfl) T.n_len PySem.boot_len (pa_cons (pv 3) pa_nil))) (pa_cons (pv 2) pa_nil)))) pa_nil))) pss_nil)) (pss_cons (ps_ret (pv 3)) pss_nil)))))), ?_⟩
    try dsimp only [cxOf, Cx.blk]
    refine Go.start (σ := [some (.ref a), some (.int many), some (.int most), none, none, none, none, none]) ?_
    refine go_asgL (el_lst (by walk_at "ea") (Nat.zero_le _)) fun pg hpg => ?_
    have e1 : Ex H (upd H pg (.lst [])) := Ex.new hpg
    have hS1 := ex_l e1 hS
    refine go_asgL (xs := ((ns.drop 3).take 200).map V.int) (by
      have q := el_sl (K := K) (σ := [some (.ref a), some (.int many), some (.int most), some (.ref pg), none, none, none, none]) (H := upd H pg (.lst [])) (te := tVar 0) (tl := tPart (tC (.int 3))) (th := tPart (tC (.int 203))) (ev_var rfl) (eo_some ev_c) (eo_some ev_c) hS1
      rw [show cutV (ns.map V.int) (some 3) (some 203) = ((ns.drop 3).take 200).map V.int by rw [List.map_take, List.map_drop]; exact cut_nat (a := 3) (b := 203) (by omega)] at q
      exact q) fun pc hpc => ?_
    obtain ⟨npc, hpc0⟩ := none_upd.mp hpc
    have e2 : Ex H (upd (upd H pg (.lst [])) pc (.lst (((ns.drop 3).take 200).map V.int))) := Ex.mut e1 hpc0
    have hS2 := ex_l e2 hS
    refine go_asg (by walk_at "ev") ?_
    -- the far gates
    refine go_cut (fun σ' G' => ∃ pc ws y, σ' = [some (.ref a), some (.int many), some (.int most), some (.ref pg), some (.ref pc), some (.int (cell ns 1)), y, none] ∧ Ex (upd H pc (.lst ((startCells ns).map V.int))) G' ∧ H pc = none ∧ pc ≠ pg ∧ G' pg = some (.lst ws) ∧ Rows (GateAt K G') ws (startGates ns many most)) (go_ifs (by walk_at "et") (fun h => ?_) (fun h => ?_)) ?_
    · have hf : isFar ns := by unfold isFar; simpa only [Bool.or_eq_true, decide_eq_true_eq] using h
      generalize hG2 : upd (upd H pg (.lst [])) pc (.lst (((ns.drop 3).take 200).map V.int)) = G2 at *
      have hpg2 : G2 pg = some (.lst []) := by rw [← hG2, upd_ne (Ne.symm npc), upd_same]
      refine go_asgL (xs := ((ns.drop 3).take 10).map V.int) (by
        have q := el_sl (K := K) (σ := [some (.ref a), some (.int many), some (.int most), some (.ref pg), some (.ref pc), some (.int (cell ns 1)), none, none]) (H := G2) (te := tVar 0) (tl := tPart (tC (.int 3))) (th := tPart (tC (.int 13))) (ev_var rfl) (eo_some ev_c) (eo_some ev_c) hS2
        rw [show cutV (ns.map V.int) (some 3) (some 13) = ((ns.drop 3).take 10).map V.int by rw [List.map_take, List.map_drop]; exact cut_nat (a := 3) (b := 13) (by omega)] at q
        exact q) fun p3 hp3 => ?_
      have np3 : p3 ≠ pg := Ne.symm (ne_of_none hpg2 hp3)
      have hp30 : H p3 = none := e2.none hp3
      have sc : startCells ns = (ns.drop 3).take 10 := by unfold startCells; rw [if_pos hf]
      have sg : startGates ns many most = farGates (cell ns 1) many most (60 + cell ns 1 / 8 % 131).toNat := by unfold startGates; rw [if_pos hf]
      have eB : Ex (upd H p3 (.lst ((startCells ns).map V.int))) (upd G2 p3 (.lst (((ns.drop 3).take 10).map V.int))) := by rw [sc]; exact Ex.put e2
      refine go_forR1 (upd H p3 (.lst ((startCells ns).map V.int))) (n := 60 + cell ns 1 / 8 % 131) (by walk_at "ea") (by omega) eB (fun k σ' G' => ∃ ws y, σ' = [some (.ref a), some (.int many), some (.int most), some (.ref pg), some (.ref p3), some (.int (cell ns 1)), y, none] ∧ G' pg = some (.lst ws) ∧ Rows (GateAt K G') ws (farGates (cell ns 1) many most k.toNat))
        ⟨[], none, rfl, by rw [upd_ne (Ne.symm np3)]; exact hpg2, rows_nil⟩ ?_ ?_
      · rintro k σ' G' k0 k1 eG ⟨ws, y, rfl, hws, hR⟩
        have lw : ws.length < 100000 := by rw [hR.1, farGates_len]; omega
        have hk : (k + 1).toNat = k.toNat + 1 := by omega
        have kk : ((k.toNat : Nat) : Int) = k := by omega
        have npgB : (upd H p3 (.lst ((startCells ns).map V.int))) pg = none := by rw [upd_ne (Ne.symm np3)]; exact hpg
        refine go_cut (fun σ' G' => ∃ ws y, σ' = [some (.ref a), some (.int many), some (.int most), some (.ref pg), some (.ref p3), some (.int (cell ns 1)), y, none] ∧ Ex (upd H p3 (.lst ((startCells ns).map V.int))) G' ∧ G' pg = some (.lst ws) ∧ Rows (GateAt K G') ws (farGates (cell ns 1) many most (k + 1).toNat)) (go_ifs (by walk_at "et") (fun h => ?_) (fun h => ?_)) ?_
        · have h2 : cell ns 1 % 8 = 4 ∨ many + k = 0 := by simpa only [Bool.or_eq_true, decide_eq_true_eq] using h
          refine go_appP (l := pg) (xs := ws) (by walk_at "ev") hws (ep_call (by walk_at "ea") (sg_gate_by (c := cell ns 1 / 8 + 5 * k) (b := many + k) (m := most) (by omega) hmo)) lw fun v G1 e1 hv => ?_
          refine go_kn ⟨_, _, rfl, Ex.mut (eG.trans e1) npgB, upd_same, ?_⟩
          rw [hk, farGates, kk]
          refine rows_snoc (gates_put hR e1 (e1 _ _ hws)) ?_
          unfold farGate
          rw [if_pos h2]
          exact hv.put (e1 _ _ hws)
        · have h2 : ¬ (cell ns 1 % 8 = 4 ∨ many + k = 0) := by
            intro h3
            have : (decide (cell ns 1 % 8 = 4) || decide (many + k = 0)) = true := by simpa only [Bool.or_eq_true, decide_eq_true_eq] using h3
            rw [this] at h; cases h
          refine go_appP (l := pg) (xs := ws) (by walk_at "ev") hws (ep_gate (K := K) (z := "not") (ss := [many + k - 1]) (d := 1) ev_c (eu_tup (vs := [.int (many + k - 1)]) (ea_cons (ev_op (ev_op (ev_var rfl) (ev_var rfl) rv_I0) ev_c rv_I0) ea_nil) (by show 1 ≤ 100000; decide)) ev_c) lw fun v G1 e1 hv => ?_
          refine go_kn ⟨_, _, rfl, Ex.mut (eG.trans e1) npgB, upd_same, ?_⟩
          rw [hk, farGates, kk]
          refine rows_snoc (gates_put hR e1 (e1 _ _ hws)) ?_
          unfold farGate
          rw [if_neg h2]
          exact hv.put (e1 _ _ hws)
        · rintro σ1 G1 ⟨ws1, y1, rfl, e1, h1, h2⟩
          exact go_kb e1 ⟨ws1, _, rfl, h1, h2⟩
      · rintro σ' G' eG ⟨ws, y, rfl, hws, hR⟩
        exact go_kn ⟨p3, ws, _, rfl, eG, hp30, np3, hws, by rw [sg]; exact hR⟩
    · have hf : ¬ isFar ns := by
        intro h3
        unfold isFar at h3
        have : (decide (cell ns 1 % 8 = 1) || decide (cell ns 1 % 8 = 4)) = true := by simpa only [Bool.or_eq_true, decide_eq_true_eq] using h3
        rw [this] at h; cases h
      have sc : startCells ns = (ns.drop 3).take 200 := by unfold startCells; rw [if_neg hf]
      have sg : startGates ns many most = [] := by unfold startGates; rw [if_neg hf]
      exact go_kn ⟨pc, [], none, rfl, by rw [sc]; exact Ex.put e1, hpc0, npc, by rw [upd_ne (Ne.symm npc), upd_same], by rw [sg]; exact rows_nil⟩
    -- the cells
    rintro σ' G3 ⟨p4, ws0, y0, rfl, e3, hp40, np4, hws0, hR0⟩
    have npgB : (upd H p4 (.lst ((startCells ns).map V.int))) pg = none := by rw [upd_ne (Ne.symm np4)]; exact hpg
    obtain ⟨lc, lg⟩ := startCells_len (many := many) (most := most) hlen
    refine go_forL (upd H p4 (.lst ((startCells ns).map V.int))) (by walk_at "ev") e3 (sq_of upd_same) (fun i σ' G' => ∃ ws y, σ' = [some (.ref a), some (.int many), some (.int most), some (.ref pg), some (.ref p4), some (.int (cell ns 1)), y0, y] ∧ G' pg = some (.lst ws) ∧ Rows (GateAt K G') ws (addGates many most (startGates ns many most) ((startCells ns).take i)))
      ⟨ws0, none, rfl, hws0, by rw [List.take_zero]; exact hR0⟩ ?_ ?_
    · rintro i x σ' G' hx eG ⟨ws, y, rfl, hws, hR⟩
      rw [List.getElem?_map] at hx
      cases hc : (startCells ns)[i]? with
      | none => rw [hc] at hx; cases hx
      | some c =>
        rw [hc] at hx
        cases hx
        have hi : i < (startCells ns).length := (List.getElem?_eq_some_iff.mp hc).1
        have hws' : SqL K G' pg ws := sq_of hws
        have lw : ws.length < 100000 := by rw [hR.1, addGates_len, List.length_take]; omega
        refine go_appP (l := pg) (xs := ws) (by walk_at "ev") hws (ep_call (by walk_at "ea") (sg_gate_by (c := c) (b := many + ws.length) (m := most) (by omega) hmo)) lw fun v G1 e1 hv => ?_
        refine go_kb (Ex.mut (eG.trans e1) npgB) ⟨_, _, rfl, upd_same, ?_⟩
        rw [List.take_add_one, hc]
        show Rows _ _ (addGates many most (startGates ns many most) ((startCells ns).take i ++ [c]))
        rw [addGates_snoc]
        refine rows_snoc (gates_put hR e1 (e1 _ _ hws)) ?_
        rw [← hR.1]
        exact hv.put (e1 _ _ hws)
    · rintro σ' G' eG ⟨ws, y, rfl, hws, hR⟩
      refine go_ret (by walk_at "ev") fun H1 e4 => ?_
      rw [List.length_map, List.take_length] at hR
      exact q pg ws H1 hpg (((Ex.new hp40).trans eG).trans e4) (e4 _ _ hws) (rows_imp hR fun _ _ r => r.mono e4)

end

section
variable {P : Program} {w : World} {K : PySem.W.Frag} {mg : Str → Option Value} {base : Heap} {A : Ads}
def sp_l_place (K : PySem.W.Frag) (A : Ads) : Sp := fun vs H Q E => ∃ k n t : Int, vs = [.int k, .int n, .int t] ∧ 0 < n ∧ RetV (.int (placeOf k n t)) H Q
theorem sv_place {K : PySem.W.Frag} {A : Ads} {G : Hp} {k n t : Int} (h : 0 < n) : SpV (sp_l_place K A) [.int k, .int n, .int t] G (.int (placeOf k n t)) := fun _ e _ q _ => ⟨k, n, t, rfl, h, q⟩
theorem ok_l_place {f : Addr} {fd : FuncData} (F : Fun K "_law_place" "_law_place" s_l_place f fd) (T : Txt K w mg A)  : FnOk P w K mg base (L2.CX P w) 1 f fd ["_law_k", "_law_count", "_law_turn"] (sp_l_place K A) := by
  refine F.okX sc_l_place (fun vs H Q E h => ?_) (fun cdv A_ outer s H vs Q E hr h => ?_)
  · obtain ⟨k, n, t, rfl, _⟩ := h; rfl
  · obtain ⟨k, n, t, rfl, hn, q⟩ := h
    refine ⟨_, (pss_cut (ps_if (pt_cmpR op_eq (pe_op op_mod (pv 2) pe_int) pe_int (nomark _)) (pss_cons (ps_set (i := 0) sc_l_place.nd rfl (.inl rfl) (pe_op op_sub (pe_op op_sub (pv 1) pe_int) (pv 0))) pss_nil) pss_nil) (pss_cons (ps_ret (pe_op op_mod (pe_op op_add (pv 0) (pe_op op_fdiv (pv 2) pe_int)) (pv 1))) pss_nil)), ?_⟩
    try dsimp only [cxOf, Cx.blk]
    refine Go.start (σ := [some (.int k), some (.int n), some (.int t)]) ?_
    refine go_cut (fun σ' G' => σ' = [some (.int (if t % 2 = 1 then n - 1 - k else k)), some (.int n), some (.int t)] ∧ Ex H G') (go_ifs (by walk_at "et") (fun h => ?_) (fun h => ?_)) ?_
    · exact go_asg (by walk_at "ev") (go_kn ⟨by rw [if_pos (of_decide_eq_true h)]; rfl, Ex.refl _⟩)
    · exact go_kn ⟨by rw [if_neg (of_decide_eq_false h)], Ex.refl _⟩
    rintro σ' G' ⟨rfl, e1⟩
    refine go_ret (by walk_at "ev") fun H1 e2 => ?_
    exact q H1 (e1.trans e2)

end
local macro_rules | `(tactic| walk_at "sv") => `(tactic| exact sv_place (by walk_at "sd"))

section
variable {P : Program} {w : World} {K : PySem.W.Frag} {mg : Str → Option Value} {base : Heap} {A : Ads}
def sp_l_turned (K : PySem.W.Frag) (A : Ads) : Sp := fun vs H Q E => ∃ (many : Int) (g : Addr) (gs : List Gate) (t : Int), vs = [.int many, .ref g, .int t] ∧ GatesAt K H g gs ∧ gs.length ≤ 1000 ∧ (∀ x ∈ gs, x.srcs.length ≤ 1000) ∧
  ∀ v H', Ex H H' → PlanAt K H' v (turnedM many gs t) → Q v H'
theorem sg_turned {K : PySem.W.Frag} {A : Ads} {G : Hp} {many : Int} {g : Addr} {gs : List Gate} {t : Int} (h : GatesAt K G g gs) (hn : gs.length ≤ 1000) (hs : ∀ x ∈ gs, x.srcs.length ≤ 1000) :
    SpG (sp_l_turned K A) [.int many, .ref g, .int t] G fun v G' => PlanAt K G' v (turnedM many gs t) := fun H e Q _ q =>
  ⟨many, g, gs, t, rfl, h.mono e, hn, hs, fun v H' e' p => q v H' H' (e.trans e') (Ex.refl _) e' p⟩
theorem ok_l_turned {f : Addr} {fd : FuncData} (F : Fun K "_law_turned" "_law_turned" s_l_turned f fd) (T : Txt K w mg A) (c_l_place : CalX P w K mg base 1 "_law_place" (sp_l_place K A)) : FnOk P w K mg base (L2.CX P w) 2 f fd ["_law_many_here", "_law_gates", "_law_turn"] (sp_l_turned K A) := by
  refine F.okX sc_l_turned (fun vs H Q E h => ?_) (fun cdv A_ outer s H vs Q E hr h => ?_)
  · obtain ⟨many, g, gs, t, rfl, _⟩ := h; rfl
  · obtain ⟨many, g, gs, t, rfl, ⟨vs, hL, hR⟩, hlen, hsl, q⟩ := h
    refine ⟨_, (pss_cons (ps_set (i := 3) sc_l_turned.nd rfl (.inl rfl) (pe_op op_rep (pe_lst (pa_cons pe_non pa_nil)) (pe_callB (c_len K) (by rfl) T.n_len PySem.boot_len (pa_cons (pv 1) pa_nil)))) (pss_cons (ps_for (passes_of rfl) rfl (pi_range1 rfl T.n_range (pa_cons (pe_callB (c_len K) (by rfl) T.n_len PySem.boot_len (pa_cons (pv 1) pa_nil)) pa_nil)) (pg_name (i := 4) sc_l_turned.nd rfl (.inl rfl)) (pss_cons (ps_set (i := 5) sc_l_turned.nd rfl (.inl rfl) (pe_lst pa_nil)) (pss_cons (ps_for (passes_of rfl) rfl (pi_T K (pe_ix (ixT K) (pe_ix (ixL K) (pv 1) (pv 4) (fun _ _ => rfl)) pe_int (fun _ _ => rfl))) (pg_name (i := 6) sc_l_turned.nd rfl (.inl rfl)) (pss_cut (ps_if (pt_cmpR op_ge (pv 6) (pv 0) (nomark _)) (pss_cons (ps_set (i := 6) sc_l_turned.nd rfl (.inl rfl) (pe_op op_add (pv 0) (pe_cx c_l_place hr (by decide) rfl (takes_of rfl rfl rfl rfl) (pa_cons (pe_op op_sub (pv 6) (pv 0)) (pa_cons (pe_callB (c_len K) (by rfl) T.n_len PySem.boot_len (pa_cons (pv 1) pa_nil)) (pa_cons (pv 2) pa_nil)))))) pss_nil) pss_nil) (pss_cons (ps_expr (pe_bm PySem.F.plainAttrs_list PySem.F.slot_list_append PySem.F.type_list_append mt_append (pv 5) (pa_cons (pv 6) pa_nil))) pss_nil))) (pss_cons (ps_asg (pe_tup (pa_cons (pe_ix (ixT K) (pe_ix (ixL K) (pv 1) (pv 4) (fun _ _ => rfl)) pe_int (fun _ _ => rfl)) (pa_cons (pe_callTy (c_tup K) (by rfl) T.n_tuple (by decide +kernel) (pa_cons (pv 5) pa_nil)) (pa_cons (pe_ix (ixT K) (pe_ix (ixL K) (pv 1) (pv 4) (fun _ _ => rfl)) pe_int (fun _ _ => rfl)) pa_nil)))) (pg_sub (pv 3) (pe_cx c_l_place hr (by decide) rfl (takes_of rfl rfl rfl rfl) (pa_cons (pv 4) (pa_cons (pe_callB (c_len K) (by rfl) T.n_len PySem.boot_len (pa_cons (pv 1) pa_nil)) (pa_cons (pv 2) pa_nil)))) set_list)) pss_nil)))) (pss_cons (ps_ret (pe_tup (pa_cons (pv 0) (pa_cons (pv 3) pa_nil)))) pss_nil))), ?_⟩
    try dsimp only [cxOf, Cx.blk]
    refine Go.start (σ := [some (.int many), some (.ref g), some (.int t), none, none, none, none]) ?_
    have lv : (vs.length : Int) = gs.length := by rw [hR.1]
    refine go_asgL (el_rep (k := (gs.length : Int)) (el_lst (by walk_at "ea") (by show 1 ≤ 100000; decide)) (ev_is (by walk_at "ev") (by rw [lv])) (by omega) (by omega)) fun pm hpm => ?_
    refine go_forR1 H (n := (gs.length : Int)) (by rw [← lv]; exact ea_cons (ev_len (ev_var rfl) (ex_l (Ex.new hpm) hL)) ea_nil) (by omega) (Ex.new hpm)
      (fun k σ' G' => ∃ ws y1 y2 y3, σ' = [some (.int many), some (.ref g), some (.int t), some (.ref pm), y1, y2, y3] ∧ G' pm = some (.lst ws) ∧ ws.length = gs.length ∧ ∀ i : Nat, i < gs.length → invOf i gs.length t < k → ∃ v, ws[i]? = some v ∧ GateAt K G' v (turnGate many gs.length t (gs.getD (invOf i gs.length t).toNat gate0)))
      ⟨List.replicate (gs.length : Int).toNat .non, none, none, none, rfl, upd_same, by rw [List.length_replicate]; omega, fun i hi hk => by have := (invOf_in (i := (i : Int)) (t := t) (show (0 : Int) < gs.length by omega)).1; omega⟩ ?_ ?_
    · rintro k σ' G1 k0 k1 eG ⟨ws, y1, y2, y3, rfl, hws, lws, hk⟩
      have hn : (0 : Int) < gs.length := by omega
      have kn : k.toNat < gs.length := by omega
      have kk : ((k.toNat : Nat) : Int) = k := by omega
      have hg : gs[k.toNat]? = some gs[k.toNat] := List.getElem?_eq_getElem kn
      obtain ⟨v, hv, ga, gsr, rfl, hG, hS⟩ := rows_get hR hg
      generalize hgt : gs[k.toNat] = gt at *
      have hL1 := ex_l eG hL
      have hG1 := ex_t eG hG
      have hS1 := ex_t eG hS
      have av : atI vs k = some (.ref ga) := by rw [← kk]; exact at_list hv
      have j0 : atI [V.str gt.kind, .ref gsr, .int gt.delay] 0 = some (.str gt.kind) := rfl
      have j1 : atI [V.str gt.kind, .ref gsr, .int gt.delay] 1 = some (.ref gsr) := rfl
      have j2 : atI [V.str gt.kind, .ref gsr, .int gt.delay] 2 = some (.int gt.delay) := rfl
      have lsr := hsl gt (List.mem_of_getElem? hg)
      refine go_asgL (el_lst (by walk_at "ea") (Nat.zero_le _)) fun ps hps => ?_
      have hps0 : H ps = none := eG.none hps
      have nps : ps ≠ pm := Ne.symm (ne_of_none hws hps)
      have eS : Ex G1 (upd G1 ps (.lst [])) := Ex.new hps
      have hL2 := ex_l eS hL1
      have hG2 := ex_t eS hG1
      refine go_forT G1 (by walk_at "ev") eS hS1 (fun i σ' G' => ∃ y, σ' = [some (.int many), some (.ref g), some (.int t), some (.ref pm), some (.int k), some (.ref ps), y] ∧ G' ps = some (.lst (((gt.srcs.take i).map (moved many gs.length t)).map V.int)))
        ⟨_, rfl, upd_same⟩ ?_ ?_
      · rintro i x σ' G' hx eG2 ⟨y, rfl, hp⟩
        rw [List.getElem?_map] at hx
        cases hs : gt.srcs[i]? with
        | none => rw [hs] at hx; cases hx
        | some s =>
          rw [hs] at hx
          cases hx
          have hL3 := ex_l eG2 hL1
          have lvp : Ev (tCB (rLenS K) (tCons (tVar 1) tNil)) [some (.int many), some (.ref g), some (.int t), some (.ref pm), some (.int k), some (.ref ps), some (.int s)] G' (.int (gs.length : Int)) := by rw [← lv]; exact ev_len (ev_var rfl) hL3
          have ll : (((gt.srcs.take i).map (moved many gs.length t)).map V.int).length < 100000 := by rw [List.length_map, List.length_map, List.length_take]; omega
          refine go_cut (fun σ' G2 => σ' = [some (.int many), some (.ref g), some (.int t), some (.ref pm), some (.int k), some (.ref ps), some (.int (moved many gs.length t s))] ∧ G' = G2) (go_ifs (by walk_at "et") (fun h => ?_) (fun h => ?_)) ?_
          · refine go_asg (v := .int (many + placeOf (s - many) gs.length t)) (ev_op (ev_var rfl) (ev_callS (ea_cons (ev_op (ev_var rfl) (ev_var rfl) rv_I0) (ea_cons lvp (ea_cons (ev_var rfl) ea_nil))) (sv_place hn)) rv_I0) (go_kn ⟨?_, rfl⟩)
            unfold moved
            rw [if_pos (of_decide_eq_true h)]
            rfl
          · refine go_kn ⟨?_, rfl⟩
            unfold moved
            rw [if_neg (of_decide_eq_false h)]
            rfl
          rintro σ' G2 ⟨rfl, rfl⟩
          refine go_app (l := ps) (by walk_at "ev") hp (by walk_at "ev") ll ?_
          refine go_kb (Ex.mut eG2 hps) ⟨_, rfl, ?_⟩
          rw [upd_same, List.take_add_one, hs, List.map_append, List.map_append]
          rfl
      · rintro σ' G' eG2 ⟨y, rfl, hp⟩
        rw [List.length_map, List.take_length] at hp
        have hL3 := ex_l eG2 hL1
        have hG3 := ex_t eG2 hG1
        have hp' : SqL K G' ps ((gt.srcs.map (moved many gs.length t)).map V.int) := sq_of hp
        have hws3 : G' pm = some (.lst ws) := eG2 _ _ hws
        obtain ⟨p0, p1⟩ := placeOf_in (k := k) (t := t) hn
        have pj : ((placeOf k gs.length t).toNat : Int) = placeOf k gs.length t := by omega
        refine go_setLP (l := pm) (xs := ws) (j := (placeOf k gs.length t).toNat) (ep_gate (K := K) (by walk_at "ev") (eu_tupL (by walk_at "ev") hp') (by walk_at "ev")) (fun G2 e2 => by walk_at "ev") hws3
          (fun G2 e2 => by
            rw [pj]
            have hL4 := ex_l e2 hL3
            have lvp : Ev (tCB (rLenS K) (tCons (tVar 1) tNil)) [some (.int many), some (.ref g), some (.int t), some (.ref pm), some (.int k), some (.ref ps), y] G2 (.int (gs.length : Int)) := by rw [← lv]; exact ev_len (ev_var rfl) hL4
            exact ev_callS (by walk_at "ea") (sv_place hn)) (by omega) fun v G2 e2 hv2 => ?_
        have hws4 : G2 pm = some (.lst ws) := e2 _ _ hws3
        refine go_kb (Ex.mut ((eG.trans eG2).trans e2) hpm) ⟨_, _, _, _, rfl, upd_same, by rw [List.length_set]; exact lws, fun i hi hik => ?_⟩
        by_cases c : i = (placeOf k gs.length t).toNat
        · subst c
          refine ⟨v, by rw [List.getElem?_set_self (by omega)], ?_⟩
          rw [pj, inv_place k0 k1, List.getD_eq_getElem?_getD, hg]
          exact hv2.put hws4
        · have hik2 : invOf i gs.length t < k := by
            by_cases c2 : invOf i gs.length t = k
            · exfalso
              apply c
              have := place_inv (i := (i : Int)) (n := gs.length) (t := t) (by omega) (by omega)
              rw [c2] at this
              omega
            · omega
          obtain ⟨v', h1, h2⟩ := hk i hi hik2
          exact ⟨v', by rw [List.getElem?_set_ne (Ne.symm c)]; exact h1, (h2.mono (eG2.trans e2)).put hws4⟩
    · rintro σ' G1 eG ⟨ws, y1, y2, y3, rfl, hws, lws, hk⟩
      refine go_retU (eu_tup (by walk_at "ea") (by show 2 ≤ 100000; decide)) fun p H1 hp e1 h1 => ?_
      refine q _ H1 (eG.trans e1) ⟨p, pm, rfl, st_of h1, ws, sq_of (e1 _ _ hws), by show ws.length = ((List.range gs.length).map _).length; rw [List.length_map, List.length_range]; exact lws, fun i v a hv ha => ?_⟩
      have ha : ((List.range gs.length).map fun i : Nat => turnGate many gs.length t (gs.getD (invOf i gs.length t).toNat gate0))[i]? = some a := ha
      have hi : i < gs.length := by have := (List.getElem?_eq_some_iff.mp hv).1; omega
      obtain ⟨v', h2, h3⟩ := hk i hi (by have := (invOf_in (i := (i : Int)) (t := t) (show (0 : Int) < gs.length by omega)).2; omega)
      rw [h2] at hv; cases hv
      rw [List.getElem?_map, List.getElem?_range hi] at ha
      cases ha
      exact h3.mono e1

end

section
variable {P : Program} {w : World} {K : PySem.W.Frag} {mg : Str → Option Value} {base : Heap} {A : Ads}
def sp_l_plan_by (K : PySem.W.Frag) (A : Ads) : Sp := fun vs H Q E => ∃ (a : Addr) (ns : List Int) (most : Int), vs = [.ref a, .int most] ∧ SqL K H a (ns.map V.int) ∧ ns.length ≤ 63 ∧ 0 < most ∧ most ≤ 60 ∧ ∀ v H', Ex H H' → PlanAt K H' v (planBy ns most) → Q v H'
theorem sg_plan_by {K : PySem.W.Frag} {A : Ads} {G : Hp} {a : Addr} {ns : List Int} {most : Int} (h : SqL K G a (ns.map V.int)) (hn : ns.length ≤ 63) (h1 : 0 < most) (h2 : most ≤ 60) :
    SpG (sp_l_plan_by K A) [.ref a, .int most] G fun v G' => PlanAt K G' v (planBy ns most) := fun H e Q _ q =>
  ⟨a, ns, most, rfl, ex_l e h, hn, h1, h2, fun v H' e' p => q v H' H' (e.trans e') (Ex.refl _) e' p⟩
theorem ok_l_plan_by {f : Addr} {fd : FuncData} (F : Fun K "_law_plan_by" "_law_plan_by" s_l_plan_by f fd) (T : Txt K w mg A) (c_l_cell_at : CalX P w K mg base 1 "_law_cell_at" (sp_l_cell_at K A)) (c_l_many : CalX P w K mg base 1 "_law_many" (sp_l_many K A)) (c_l_loose : CalX P w K mg base 3 "_law_loose" (sp_l_loose K A)) (c_l_gates_by : CalX P w K mg base 3 "_law_gates_by" (sp_l_gates_by K A)) (c_l_turned : CalX P w K mg base 2 "_law_turned" (sp_l_turned K A)) : FnOk P w K mg base (L2.CX P w) 4 f fd ["_law_script", "_law_most"] (sp_l_plan_by K A) := by
  refine F.okX sc_l_plan_by (fun vs H Q E h => ?_) (fun cdv A_ outer s H vs Q E hr h => ?_)
  · obtain ⟨a, ns, most, rfl, _⟩ := h; rfl
  · obtain ⟨a, ns, most, rfl, hS, hlen, hm, hm2, q⟩ := h
    refine ⟨_, (pss_cons (ps_set (i := 2) sc_l_plan_by.nd rfl (.inl rfl) (pe_cx c_l_many hr (by decide) rfl (takes_of rfl rfl rfl rfl) (pa_cons (pe_cx c_l_cell_at hr (by decide) rfl (takes_of rfl rfl rfl rfl) (pa_cons (pv 0) (pa_cons pe_int pa_nil))) pa_nil))) (pss_cons (ps_if (pt_cmpR op_gt (pe_op op_mod (pe_cx c_l_cell_at hr (by decide) rfl (takes_of rfl rfl rfl rfl) (pa_cons (pv 0) (pa_cons pe_int pa_nil))) pe_int) pe_int (nomark _)) (pss_cons (ps_ret (pe_cx c_l_loose hr (by decide) rfl (takes_of rfl rfl rfl rfl) (pa_cons (pv 0) (pa_cons (pv 2) (pa_cons (pv 1) pa_nil))))) pss_nil) pss_nil) (pss_cons (ps_ret (pe_cx c_l_turned hr (by decide) rfl (takes_of rfl rfl rfl rfl) (pa_cons (pv 2) (pa_cons (pe_cx c_l_gates_by hr (by decide) rfl (takes_of rfl rfl rfl rfl) (pa_cons (pv 0) (pa_cons (pv 2) (pa_cons (pv 1) pa_nil)))) (pa_cons (pe_cx c_l_cell_at hr (by decide) rfl (takes_of rfl rfl rfl rfl) (pa_cons (pv 0) (pa_cons pe_int pa_nil))) pa_nil))))) pss_nil))), ?_⟩
    try dsimp only [cxOf, Cx.blk]
    refine Go.start (σ := [some (.ref a), some (.int most), none]) ?_
    refine go_asg (by walk_at "ev") ?_
    obtain ⟨m0, m1⟩ := manyOf_in (cell ns 0)
    refine go_when (b := decide (cell ns 1 % 3 > 0)) (by walk_at "et") (fun h => ?_) (fun h => ?_)
    · have h3 : cell ns 1 % 3 > 0 := of_decide_eq_true h
      refine go_retP (ep_call (vs := [.ref a, .int (manyOf (cell ns 0)), .int most]) (by walk_at "ea") (sg_loose hS hlen m0 hm)) fun v G' H1 e1 e2 hp => ?_
      refine q v H1 (e1.trans e2) ?_
      unfold planBy
      rw [if_pos h3]
      exact hp.mono e2
    have h3 : ¬ cell ns 1 % 3 > 0 := of_decide_eq_false h
    have hg := good_gatesBy (ns := ns) (most := most) m0 hm hm2
    refine go_retP (P := fun v G' => PlanAt K G' v (freePlan ns most)) (ep_callP (A := fun xs G' => ∃ vs, xs = .int (manyOf (cell ns 0)) :: vs ∧ ∃ v, vs = v :: [.int (cell ns 2)] ∧ ∃ g, v = .ref g ∧ GatesAt K G' g (gatesBy ns (manyOf (cell ns 0)) most)) (eap_ev (by walk_at "ev") (eap_p (ep_call (vs := [.ref a, .int (manyOf (cell ns 0)), .int most]) (by walk_at "ea") ?_) ?_)) ?_) fun v G' H1 e1 e2 hp => ?_
    · exact (sg_gates_by hS hlen m0 hm).imp fun v G' _ ⟨g, ws, hv, _, hl, hR⟩ => ⟨g, hv, ws, sq_of hl, hR⟩
    · intro v2 G2 e2 _
      have hS2 := ex_l e2 hS
      walk_at "ea"
    · rintro vs G' e ⟨vs1, rfl, v2, rfl, g, rfl, hG⟩
      exact sg_turned hG (by have := gatesBy_len (ns := ns) (many := manyOf (cell ns 0)) (most := most) hlen; omega) (fun x hx => by have := good_short hg x hx; omega)
    · refine q v H1 (e1.trans e2) ?_
      unfold planBy
      rw [if_neg h3]
      exact hp.mono e2

end

section
variable {P : Program} {w : World} {K : PySem.W.Frag} {mg : Str → Option Value} {base : Heap} {A : Ads}
def sp_l_text_of (K : PySem.W.Frag) (A : Ads) : Sp := fun vs H Q E => ∃ v p, vs = [v] ∧ PlanAt K H v p ∧ Valid p ∧ ∀ q H', H q = none → Ex H H' → H' q = some (.lst ((rowsOf p).map V.str)) → Q (.ref q) H'
theorem sl_text_of {K : PySem.W.Frag} {A : Ads} {G : Hp} {v : V} {p : Plan} (h : PlanAt K G v p) (hv : Valid p) : SpL (sp_l_text_of K A) [v] G ((rowsOf p).map V.str) := fun _ e _ q _ => ⟨v, p, rfl, h.mono e, hv, fun p H' h1 h2 h3 => q p H' h1 h2 h3⟩
theorem ok_l_text_of {f : Addr} {fd : FuncData} (F : Fun K "_law_text_of" "_law_text_of" s_l_text_of f fd) (T : Txt K w mg A)  : FnOk P w K mg base (L2.CX P w) 1 f fd ["_law_plan"] (sp_l_text_of K A) := by
  refine F.okX sc_l_text_of (fun vs H Q E h => ?_) (fun cdv A_ outer s H vs Q E hr h => ?_)
  · obtain ⟨v, p, rfl, _⟩ := h; rfl
  · obtain ⟨v, p, rfl, ⟨pa, g, rfl, hP, ws, hL, hR⟩, hv, q⟩ := h
    refine ⟨_, (pss_cons (ps_set (i := 1) sc_l_text_of.nd rfl (.inl rfl) (pe_lst (pa_cons (pe_op op_addZ pe_str (pe_callTy call_strI (by rfl) T.n_str (by decide +kernel) (pa_cons (pe_ix (ixT K) (pv 0) pe_int (fun _ _ => rfl)) pa_nil))) pa_nil))) (pss_cons (ps_for (passes_of rfl) rfl (pi_L K (pe_ix (ixT K) (pv 0) pe_int (fun _ _ => rfl))) (pg_name (i := 2) sc_l_text_of.nd rfl (.inl rfl)) (pss_cons (ps_set (i := 3) sc_l_text_of.nd rfl (.inl rfl) (pe_ix (ixT K) (pv 2) pe_int (fun _ _ => rfl))) (pss_cons (ps_for (passes_of rfl) rfl (pi_T K (pe_ix (ixT K) (pv 2) pe_int (fun _ _ => rfl))) (pg_name (i := 4) sc_l_text_of.nd rfl (.inl rfl)) (pss_cons (ps_set (i := 3) sc_l_text_of.nd rfl (.inl rfl) (pe_op op_addZ (pe_op op_addZ (pv 3) pe_str) (pe_callTy call_strI (by rfl) T.n_str (by decide +kernel) (pa_cons (pv 4) pa_nil)))) pss_nil)) (pss_cons (ps_expr (pe_bm PySem.F.plainAttrs_list PySem.F.slot_list_append PySem.F.type_list_append mt_append (pv 1) (pa_cons (pe_op op_addZ (pe_op op_addZ (pv 3) pe_str) (pe_callTy call_strI (by rfl) T.n_str (by decide +kernel) (pa_cons (pe_ix (ixT K) (pv 2) pe_int (fun _ _ => rfl)) pa_nil))) pa_nil))) pss_nil)))) (pss_cons (ps_ret (pv 1)) pss_nil))), ?_⟩
    try dsimp only [cxOf, Cx.blk]
    refine Go.start (σ := [some (.ref pa), none, none, none, none]) ?_
    have m0 := hv.m0
    have m60 := hv.m60
    have n200 := hv.n200
    have i0 : atI [V.int p.many, .ref g] 0 = some (.int p.many) := rfl
    have i1 : atI [V.int p.many, .ref g] 1 = some (.ref g) := rfl
    have hml := numT_len (n := p.many) m0 (by omega)
    have hin3 : ("in " : Str).length = 3 := by decide +kernel
    refine go_asgL (xs := ([("in " : Str) ++ numT p.many]).map V.str) (el_lst (ea_cons (ev_addZ ev_c (ev_strI (ev_op (ev_var rfl) ev_c (rv_ixT hP i0)) (by omega)) (by omega)) ea_nil) (by show 1 ≤ 100000; decide)) fun pr hpr => ?_
    have e1 : Ex H (upd H pr (.lst (([("in " : Str) ++ numT p.many]).map V.str))) := Ex.new hpr
    refine go_forL H (a := g) (ev_op (ev_var rfl) ev_c (rv_ixT (ex_t e1 hP) i1)) e1 hL (fun i σ' G' => ∃ y z u, σ' = [some (.ref pa), some (.ref pr), y, z, u] ∧ G' pr = some (.lst (((("in " : Str) ++ numT p.many) :: (p.gates.take i).map rowG).map V.str))) ⟨none, none, none, rfl, upd_same⟩ ?_ ?_
    · rintro i w σ' G' hx e ⟨y, z, u, rfl, hd⟩
      obtain ⟨gt, hg, hGA⟩ := rows_get' hR hx
      have hgm := List.mem_of_getElem? hg
      obtain ⟨ga, gs, rfl, hG, hS⟩ := hGA.mono e
      have ho := valid_rows hv gt hgm
      have hz := gate_short (hv.gate gt hgm)
      have hk6 : gt.kind.length ≤ 6 := by
        obtain ⟨⟨lo, hi, hw, _⟩, _⟩ := gate_ok (hv.gate gt hgm)
        unfold wantsM at hw
        cases e : least gt.kind with
        | none => rw [e] at hw; cases hw
        | some i => exact (kinds9_lets e).2.2
      have j0 : atI [V.str gt.kind, .ref gs, .int gt.delay] 0 = some (.str gt.kind) := rfl
      have j1 : atI [V.str gt.kind, .ref gs, .int gt.delay] 1 = some (.ref gs) := rfl
      have j2 : atI [V.str gt.kind, .ref gs, .int gt.delay] 2 = some (.int gt.delay) := rfl
      have hi : i < p.gates.length := (List.getElem?_eq_some_iff.mp hg).1
      refine go_asg (v := .str gt.kind) (ev_op (ev_var rfl) ev_c (rv_ixT hG j0)) ?_
      refine go_forT G' (a := gs) (ev_op (ev_var rfl) ev_c (rv_ixT hG j1)) (Ex.refl _) hS (fun k σ2 G2 => ∃ u, σ2 = [some (.ref pa), some (.ref pr), some (.ref ga), some (.str (accS gt.kind (gt.srcs.take k))), u]) ⟨u, by rw [List.take_zero]; rfl⟩ ?_ ?_
      · rintro k sv σ2 G2 hk e2 ⟨u, rfl⟩
        rw [List.getElem?_map] at hk
        cases hs : gt.srcs[k]? with
        | none => rw [hs] at hk; cases hk
        | some s =>
          rw [hs] at hk
          cases hk
          have hsm := ho.srcs s (List.mem_of_getElem? hs)
          have hal := accS_len (ss := gt.srcs.take k) (z := gt.kind) fun x hx => ho.srcs x (List.mem_of_mem_take hx)
          rw [List.length_take] at hal
          have hnl := numT_len hsm.1 hsm.2
          have h1 : (" " : Str).length = 1 := by decide +kernel
          refine go_asg (v := .str (accS gt.kind (gt.srcs.take k) ++ " " ++ numT s)) (ev_addZ (ev_addZ (ev_var rfl) ev_c (by omega)) (ev_strI (ev_var rfl) (by omega)) (by rw [PySem.Str.length_append]; omega)) ?_
          have hsn : accS gt.kind (gt.srcs.take (k + 1)) = accS gt.kind (gt.srcs.take k) ++ " " ++ numT s := by
            rw [List.take_add_one, hs]; exact accS_snoc _ _ _
          exact go_kb e2 ⟨_, by rw [hsn]; rfl⟩
      · rintro σ2 G2 e2 ⟨u, rfl⟩
        rw [List.length_map, List.take_length]
        have hal := accS_len (ss := gt.srcs) (z := gt.kind) fun x hx => ho.srcs x hx
        have hnl := numT_len ho.delay.1 ho.delay.2
        have h4 : (" by " : Str).length = 4 := by decide +kernel
        have hdl := ho.delay
        refine go_app (v := .str (rowG gt)) (ev_var rfl) (e2 _ _ hd) (ev_is (ev_addZ (ev_addZ (ev_var rfl) ev_c (by omega)) (ev_strI (ev_op (ev_var rfl) ev_c (rv_ixT (ex_t e2 hG) j2)) (by omega)) (by rw [PySem.Str.length_append]; omega)) (by rw [row_acc])) (by rw [List.length_map, List.length_cons, List.length_map, List.length_take]; omega) ?_
        refine go_kb (Ex.mut (e.trans e2) hpr) ⟨_, _, _, rfl, ?_⟩
        rw [upd_same, List.take_add_one, hg]
        simp
    · rintro σ' G' e ⟨y, z, u, rfl, hd⟩
      rw [hR.1, List.take_length] at hd
      exact go_ret (ev_var rfl) fun H1 e1 => q pr H1 hpr (e.trans e1) (e1 _ _ hd)

end

section
variable {P : Program} {w : World} {K : PySem.W.Frag} {mg : Str → Option Value} {base : Heap} {A : Ads}
def sp_l_odd_head (K : PySem.W.Frag) (A : Ads) : Sp := fun vs H Q E => ∃ c : Int, vs = [.int c] ∧ RetV (.str (oddHeads.getD (c % 12).toNat "")) H Q
theorem sv_odd_head {K : PySem.W.Frag} {A : Ads} {G : Hp} {c : Int} : SpV (sp_l_odd_head K A) [.int c] G (.str (oddHeads.getD (c % 12).toNat "")) := fun _ _ _ q _ => ⟨c, rfl, q⟩
theorem ok_l_odd_head {f : Addr} {fd : FuncData} (F : Fun K "_law_odd_head" "_law_odd_head" s_l_odd_head f fd) (T : Txt K w mg A)  : FnOk P w K mg base (L2.CX P w) 1 f fd ["_law_cell"] (sp_l_odd_head K A) := by
  refine F.okX sc_l_odd_head (fun vs H Q E h => ?_) (fun cdv A_ outer s H vs Q E hr h => ?_)
  · obtain ⟨c, rfl, _⟩ := h; rfl
  · obtain ⟨c, rfl, q⟩ := h
    refine ⟨_, (pss_cons (ps_set (i := 1) sc_l_odd_head.nd rfl (.inl rfl) (pe_lst (pa_cons pe_str (pa_cons pe_str (pa_cons pe_str (pa_cons pe_str (pa_cons pe_str (pa_cons pe_str (pa_cons pe_str (pa_cons pe_str (pa_cons pe_str (pa_cons pe_str (pa_cons pe_str (pa_cons pe_str pa_nil)))))))))))))) (pss_cons (ps_ret (pe_ix (ixL K) (pv 1) (pe_op op_mod (pv 0) pe_int) (fun _ _ => rfl))) pss_nil)), ?_⟩
    try dsimp only [cxOf, Cx.blk]
    refine Go.start (σ := [some (.int c), none]) ?_
    have c0 : 0 ≤ c % 12 ∧ c % 12 < 12 := by omega
    refine go_asgL (xs := oddHeads.map V.str) (el_lst (by unfold oddHeads; dsimp only [List.map]; walk_at "ea") (by show 12 ≤ 100000; decide)) fun p hp => ?_
    exact go_ret (ev_op (ev_var rfl) (ev_op (ev_var rfl) ev_c (rv_I (by decide))) (rv_ixL (sq_of upd_same) (at_map V.str oddHeads "" c0.1 c0.2))) fun H1 e1 => q H1 ((Ex.new hp).trans e1)

end

section
variable {P : Program} {w : World} {K : PySem.W.Frag} {mg : Str → Option Value} {base : Heap} {A : Ads}
def numR (z : Str) : Except Err Int := match numM z with
  | some n => .ok n
  | none => .error .text
def sp_number (K : PySem.W.Frag) (A : Ads) : Sp := fun vs H Q E => ∃ z, vs = [.str z] ∧ z.length ≤ 90000 ∧ Out A H Q E (RV1 V.int) (numR z)
theorem sv_number {K : PySem.W.Frag} {A : Ads} {G : Hp} {z : Str} {n : Int} (h : z.length ≤ 90000) (hn : numM z = some n) : SpV (sp_number K A) [.str z] G (.int n) :=
  spv_out (A := A) (f := V.int) (r := numR z) (a := n) (fun H1 e1 Q1 E1 o1 => ⟨z, rfl, h, o1⟩) (by unfold numR; rw [hn])
theorem ok_number {f : Addr} {fd : FuncData} (F : Fun K "number" "number" s_number f fd) (T : Txt K w mg A)  : FnOk P w K mg base (L2.CX P w) 1 f fd ["word"] (sp_number K A) := by
  refine F.okX sc_number (fun vs H Q E h => ?_) (fun cdv A_ outer s H vs Q E hr h => ?_)
  · obtain ⟨z, rfl, _⟩ := h; rfl
  · obtain ⟨z, rfl, hz, o⟩ := h
    refine ⟨_, (pss_cons (ps_for (passes_of rfl) rfl (pi_str (pv 0)) (pg_name (i := 1) sc_number.nd rfl (.inl rfl)) (pss_cons (ps_if (pt_cmpR op_notInS (pv 1) (pe_gv rfl T.c_FIGURES) rfl) (pss_cons (ps_raise rfl (takes_of rfl rfl rfl rfl) (pmk_own PySem.F.excBase_ValueError T.x_NoText T.g_NoText T.k_NoText (raises_own T.b_NoText T.t_NoText) rfl)) pss_nil) pss_nil) pss_nil)) (pss_cons (ps_if (PW.pt (pw_or (pt_cmpR op_eq (pv 0) pe_str (nomark _)) (pw_or (pt_cmpR op_gt (pe_callB call_lenZ (by rfl) T.n_len PySem.boot_len (pa_cons (pv 0) pa_nil)) (pe_gv rfl T.c_MANY_FIGURES) (nomark _)) (pw_or1 (PW.pt (pw_and (pt_cmpR op_eq (pe_ix ix_str (pv 0) pe_int (fun _ _ => rfl)) pe_str (nomark _)) (pw_and1 (pt_cmpR op_gt (pe_callB call_lenZ (by rfl) T.n_len PySem.boot_len (pa_cons (pv 0) pa_nil)) pe_int (nomark _))))))))) (pss_cons (ps_raise rfl (takes_of rfl rfl rfl rfl) (pmk_own PySem.F.excBase_ValueError T.x_NoText T.g_NoText T.k_NoText (raises_own T.b_NoText T.t_NoText) rfl)) pss_nil) pss_nil) (pss_cons (ps_ret (pe_callTy call_intZ (by rfl) T.n_int (by decide +kernel) (pa_cons (pv 0) pa_nil))) pss_nil))), ?_⟩
    try dsimp only [cxOf, Cx.blk]
    refine Go.start (σ := [some (.str z), none]) ?_
    have bad : numM z = none → ∀ H1, Ex H H1 → E (.ref (A.of .text)) none H1 := fun h H1 e => o.err .text (by unfold numR; rw [h]) e
    refine go_forS H (x := z) (ev_var rfl) (Ex.refl _) (fun i σ' G' => ∃ y, σ' = [some (.str z), y] ∧ ∀ k c, k < i → z.cps[k]? = some c → c ∈ figs) ⟨none, rfl, fun k c hk => by omega⟩ ?_ ?_
    · rintro i c σ' G' hc e ⟨y, rfl, hk⟩
      refine go_when (b := !decide (c ∈ figs)) (et_test (ev_op (ev_var rfl) ev_c rv_notInS)) (fun h => ?_) (fun h => ?_)
      · have hn : c ∉ figs := by simpa using h
        refine go_raise fun _ _ H1 e2 => bad (numM_none fun q => hn ?_) H1 (e.trans e2)
        have := List.all_eq_true.mp q.1 c (List.mem_of_getElem? (by rw [Array.getElem?_toList]; exact hc))
        exact of_decide_eq_true this
      · have hn : c ∈ figs := by simpa using h
        refine go_kb e ⟨_, rfl, fun k c' hk' hc' => ?_⟩
        by_cases hki : k = i
        · subst hki; rw [hc] at hc'; cases hc'; exact hn
        · exact hk k c' (by omega) hc'
    · rintro σ' G' e ⟨y, rfl, hk⟩
      have hall : allIn figs z = true := List.all_eq_true.mpr fun c hc => by
        obtain ⟨k, hk1, hk2⟩ := List.getElem_of_mem hc
        have h2 : z.cps.toList[k]? = some c := by rw [List.getElem?_eq_getElem hk1, hk2]
        rw [Array.getElem?_toList] at h2
        have hlt : k < z.cps.size := (Array.getElem?_eq_some_iff.mp h2).1
        exact decide_eq_true (hk k c hlt h2)
      have hlen : ∀ {σ : L2.St} {G : Hp}, σ[0]? = some (some (.str z)) → Ev (tCB rLenZ (tCons (tVar 0) tNil)) σ G (.int (z.length : Int)) := fun hσ => ev_lenZ (ev_var hσ) (by omega)
      by_cases hz0 : z = ""
      · refine go_when (b := true) (et_is (et_or (a := true) (b := true) (et_is (et_test (ev_op (ev_var rfl) ev_c rv_eqS)) (decide_eq_true hz0)) fun h => by cases h) rfl) (fun _ => ?_) (fun h => by cases h)
        exact go_raise fun _ _ H1 e2 => bad (numM_none fun q => q.2.1 hz0) H1 (e.trans e2)
      have hne : z.cps.toList ≠ [] := fun h => hz0 (str_empty.mpr h)
      obtain ⟨c0, r0, hcr⟩ := List.exists_cons_of_ne_nil hne
      have hone : (⟨#[c0]⟩ : Str) = "0" ↔ c0 = 48 := by
        constructor
        · intro h
          have : (⟨#[c0]⟩ : Str).cps.toList = ("0" : Str).cps.toList := by rw [h]
          have e0 : ("0" : Str).cps.toList = [48] := by decide +kernel
          rw [e0] at this
          simpa using this
        · rintro rfl
          exact TL.ext_tl (by show [48] = ("0" : Str).cps.toList; decide +kernel)
      refine go_when (b := false || (decide (9 < (z.length : Int)) || (decide ((⟨#[c0]⟩ : Str) = "0") && decide (1 < (z.length : Int)))))
        (et_or (et_is (et_test (ev_op (ev_var rfl) ev_c rv_eqS)) (decide_eq_false hz0)) fun _ => et_or (et_test (ev_op (hlen rfl) ev_c rv_I0)) fun _ => et_and (et_test (ev_op (ev_op (ev_var rfl) ev_c (rv_ixS (by omega) (show atI z.cps.toList ((0 : Nat) : Int) = some c0 from atI_nat (by rw [hcr]; rfl)))) ev_c rv_eqS)) fun _ => et_test (ev_op (hlen rfl) ev_c rv_I0)) (fun h => ?_) (fun h => ?_)
      · refine go_raise fun _ _ H1 e2 => bad (numM_none fun q => ?_) H1 (e.trans e2)
        obtain ⟨_, _, q1, q2⟩ := q
        simp only [Bool.false_or, Bool.or_eq_true, Bool.and_eq_true, decide_eq_true_eq] at h
        rcases h with h | ⟨h, h3⟩
        · omega
        · exact q2 ⟨by rw [hcr]; simp [hone.mp h], by omega⟩
      · have hc : allIn figs z = true ∧ z ≠ "" ∧ z.length ≤ 9 ∧ ¬ (z.cps.toList.head? = some 48 ∧ 1 < z.length) := by
          simp only [Bool.false_or, Bool.or_eq_false_iff, Bool.and_eq_false_iff, decide_eq_false_iff_not] at h
          refine ⟨hall, hz0, by omega, fun ⟨q1, q2⟩ => ?_⟩
          rw [hcr] at q1
          have : c0 = 48 := by simpa using q1
          rcases h.2 with h2 | h2
          · exact h2 (hone.mpr this)
          · omega
        obtain ⟨n, hn⟩ := num_int hc.1 hc.2.1 hc.2.2.1
        have hm : numM z = some (n : Int) := by unfold numM; rw [if_pos hc]; exact hn
        exact go_ret (v := .int (n : Int)) (ev_intZ (ev_var rfl) hn (by have := hc.2.2.1; omega)) fun H1 e1 => o.ok (n : Int) (by unfold numR; rw [hm]) (e.trans e1) rfl

end

section
variable {P : Program} {w : World} {K : PySem.W.Frag} {mg : Str → Option Value} {base : Heap} {A : Ads}
def RGateN (K : PySem.W.Frag) : Hp → V → Hp → Gate → Prop := fun _ v H' g => GateAt K H' v g
def sp_gate_of (K : PySem.W.Frag) (A : Ads) : Sp := fun vs H Q E => ∃ z, vs = [.str z] ∧ z.length ≤ 30000 ∧ Out A H Q E (RGateN K) (gateR z)
theorem sg_gate_of {K : PySem.W.Frag} {A : Ads} {G : Hp} {z : Str} {g : Gate} (h : z.length ≤ 30000) (hg : gateM z = some g) : SpG (sp_gate_of K A) [.str z] G fun v G' => GateAt K G' v g :=
  (spg_out (A := A) (R := RGateN K) (r := gateR z) (a := g) (fun H1 e1 Q1 E1 o1 => ⟨z, rfl, h, o1⟩) (by unfold gateR; rw [hg])).imp fun v G' _ ⟨_, _, _, r⟩ => r
theorem ok_gate_of {f : Addr} {fd : FuncData} (F : Fun K "gate_of" "gate_of" s_gate_of f fd) (T : Txt K w mg A) (c_number : CalX P w K mg base 1 "number" (sp_number K A)) : FnOk P w K mg base (L2.CX P w) 2 f fd ["row"] (sp_gate_of K A) := by
  refine F.okX sc_gate_of (fun vs H Q E h => ?_) (fun cdv A_ outer s H vs Q E hr h => ?_)
  · obtain ⟨z, rfl, _⟩ := h; rfl
  · obtain ⟨z, rfl, hz, o⟩ := h
    refine ⟨_, (pss_cons (ps_set (i := 1) sc_gate_of.nd rfl (.inl rfl) (pe_splitN (pv 0) pe_str)) (pss_cons (ps_if (PW.pt (pw_or (pt_cmpR op_lt (pe_callB (c_len K) (by rfl) T.n_len PySem.boot_len (pa_cons (pv 1) pa_nil)) pe_int (nomark _)) (pw_or (pt_cmpR op_eq (pe_ix (ixL K) (pv 1) pe_int (fun _ _ => rfl)) pe_str (nomark _)) (pw_or1 (pt_cmpR op_ne (pe_ix (ixL K) (pv 1) (pe_un un_neg pe_int) (fun _ _ => rfl)) pe_str (nomark _)))))) (pss_cons (ps_raise rfl (takes_of rfl rfl rfl rfl) (pmk_own PySem.F.excBase_ValueError T.x_NoText T.g_NoText T.k_NoText (raises_own T.b_NoText T.t_NoText) rfl)) pss_nil) pss_nil) (pss_cons (ps_for (passes_of rfl) rfl (pi_str (pe_ix (ixL K) (pv 1) pe_int (fun _ _ => rfl))) (pg_name (i := 2) sc_gate_of.nd rfl (.inl rfl)) (pss_cons (ps_if (pt_cmpR op_notInS (pv 2) (pe_gv rfl T.c_LETTERS) rfl) (pss_cons (ps_raise rfl (takes_of rfl rfl rfl rfl) (pmk_own PySem.F.excBase_ValueError T.x_NoText T.g_NoText T.k_NoText (raises_own T.b_NoText T.t_NoText) rfl)) pss_nil) pss_nil) pss_nil)) (pss_cons (ps_ret (pe_tup (pa_cons (pe_ix (ixL K) (pv 1) pe_int (fun _ _ => rfl)) (pa_cons (pe_callTy (c_tup K) (by rfl) T.n_tuple (by decide +kernel) (pa_cons (pe_lcE (own := [("word", 3)]) (g := gName 3) (tt := tYes) rfl rfl rfl rfl rfl sc_gate_of.nd (pi_L K (pe_slice (slL K) (pv 1) (po_some pe_int) (po_some (pe_un un_neg pe_int)))) (blkOk_by (own := [("word", 3)]) (N := ["row", "words", "sign", "word"]) (sc := defScope s_gate_of) (by decide +kernel)) (fun _ _ _ _ _ => pg_name (i := 3) sc_gate_of.nd rfl (Or.inl rfl)) (fun _ _ _ _ _ => pts_nil) (fun _ _ _ _ _ => (pe_cxB c_number hr (by decide) rfl (pa_cons (pv 3) pa_nil)))) pa_nil)) (pa_cons (pe_cx c_number hr (by decide) rfl (takes_of rfl rfl rfl rfl) (pa_cons (pe_ix (ixL K) (pv 1) (pe_un un_neg pe_int) (fun _ _ => rfl)) pa_nil)) pa_nil))))) pss_nil)))), ?_⟩
    try dsimp only [cxOf, Cx.blk]
    refine Go.start (σ := [some (.str z), none, none, none]) ?_
    have bad : gateM z = none → ∀ H1, Ex H H1 → E (.ref (A.of .text)) none H1 := fun h H1 e => o.err .text (by unfold gateR; rw [h]) e
    refine go_asgL (el_split (b := " ") (ev_var rfl) ev_c (by decide +kernel) (by omega)) fun pw hpw => ?_
    have hwl : ∀ t ∈ Txt.split z " ", t.length ≤ 30000 := fun t ht => by have := word_len ht; omega
    have hmany := split_many z " "
    have hgm : gateM z = gateL (Txt.split z " ") := rfl
    generalize Txt.split z " " = ws at *
    have e1 : Ex H (upd H pw (.lst (ws.map V.str))) := Ex.new hpw
    have hW1 : SqL K (upd H pw (.lst (ws.map V.str))) pw (ws.map V.str) := sq_of upd_same
    generalize upd H pw (.lst (ws.map V.str)) = G1 at *
    have hlen : ∀ {σ : L2.St} {G : Hp}, σ[1]? = some (some (.ref pw)) → Ex G1 G → Ev (tCB (rLenS K) (tCons (tVar 1) tNil)) σ G (.int (ws.length : Int)) := fun hσ e => by
      have q := ev_len (K := K) (ev_var hσ) (ex_l e hW1)
      rw [List.length_map] at q
      exact q
    by_cases hw3 : ws.length < 3
    · refine go_when (b := true) (et_is (et_or (a := true) (b := true) (et_is (et_test (ev_op (hlen rfl (Ex.refl _)) ev_c rv_I0)) (decide_eq_true (by omega))) fun h => by cases h) rfl) (fun _ => ?_) (fun h => by cases h)
      exact go_raise fun _ _ H1 e2 => bad (by rw [hgm]; unfold gateL; rw [if_neg (by omega)]) H1 (e1.trans e2)
    have hw3 : 3 ≤ ws.length := by omega
    have hG : gateM z = gateW (ws.getD 0 "") ((ws.drop 1).take (ws.length - 3)) (ws.getD (ws.length - 2) "") (ws.getD (ws.length - 1) "") := by rw [hgm]; unfold gateL; rw [if_pos hw3]
    have geti : ∀ i, i < ws.length → (ws.map V.str)[i]? = some (.str (ws.getD i "")) := fun i hi => by
      rw [List.getElem?_map, List.getElem?_eq_getElem hi, List.getD_eq_getElem?_getD, List.getElem?_eq_getElem hi]; rfl
    have i0 : atI (ws.map V.str) 0 = some (.str (ws.getD 0 "")) := at_list (j := 0) (geti 0 (by omega))
    have i2 : atI (ws.map V.str) (-2) = some (.str (ws.getD (ws.length - 2) "")) := at_back (k := 2) (by decide) (by rw [List.length_map]; omega) (by rw [List.length_map]; exact geti _ (by omega))
    have i1 : atI (ws.map V.str) (-1) = some (.str (ws.getD (ws.length - 1) "")) := at_back (k := 1) (by decide) (by rw [List.length_map]; omega) (by rw [List.length_map]; exact geti _ (by omega))
    have mem : ∀ i, i < ws.length → ws.getD i "" ∈ ws := fun i hi => by
      rw [List.getD_eq_getElem?_getD, List.getElem?_eq_getElem hi]; exact List.getElem_mem hi
    have hw0l := hwl _ (mem 0 (by omega))
    have hwdl := hwl _ (mem (ws.length - 1) (by omega))
    have hcut : cutV (ws.map V.str) (some 1) (some (-2)) = ((ws.drop 1).take (ws.length - 3)).map V.str := by
      rw [cutV_mid (by rw [List.length_map]; exact hw3), List.length_map, List.map_take, List.map_drop]
    have hmidl : ∀ t ∈ (ws.drop 1).take (ws.length - 3), t.length ≤ 30000 := fun t ht => hwl t (List.mem_of_mem_drop (List.mem_of_mem_take ht))
    have hmidn : ((ws.drop 1).take (ws.length - 3)).length ≤ 40000 := by rw [List.length_take]; omega
    generalize ws.getD 0 "" = w0 at *
    generalize (ws.drop 1).take (ws.length - 3) = mid at *
    generalize ws.getD (ws.length - 2) "" = wb at *
    generalize ws.getD (ws.length - 1) "" = wd at *
    refine go_when (b := false || (decide (w0 = "") || !decide (wb = "by"))) (et_or (et_is (et_test (ev_op (hlen rfl (Ex.refl _)) ev_c rv_I0)) (decide_eq_false (by omega))) fun _ => et_or (et_test (ev_op (ev_op (ev_var rfl) ev_c (rv_ixL hW1 i0)) ev_c rv_eqS)) fun _ => et_test (ev_op (ev_op (ev_var rfl) (ev_un ev_c ru_neg) (rv_ixL hW1 i2)) ev_c rv_neS)) (fun h => ?_) (fun h => ?_)
    · refine go_raise fun _ _ H1 e2 => bad ?_ H1 (e1.trans e2)
      rw [hG]; unfold gateW
      rw [if_neg]
      rintro ⟨q1, q2, _⟩
      simp [q1, q2] at h
    have hb : w0 ≠ "" ∧ wb = "by" := by simpa using h
    refine go_forS G1 (x := w0) (ev_op (ev_var rfl) ev_c (rv_ixL hW1 i0)) (Ex.refl _) (fun i σ' G' => ∃ y, σ' = [some (.str z), some (.ref pw), y, none] ∧ ∀ k c, k < i → w0.cps[k]? = some c → c ∈ lets) ⟨none, rfl, fun k c hk => by omega⟩ ?_ ?_
    · rintro i c σ' G' hc e ⟨y, rfl, hk⟩
      refine go_when (b := !decide (c ∈ lets)) (et_test (ev_op (ev_var rfl) ev_c rv_notInS)) (fun h => ?_) (fun h => ?_)
      · have hn : c ∉ lets := by simpa using h
        refine go_raise fun _ _ H1 e2 => bad ?_ H1 ((e1.trans e).trans e2)
        rw [hG]; unfold gateW
        rw [if_neg]
        rintro ⟨_, _, q⟩
        exact hn (of_decide_eq_true (List.all_eq_true.mp q c (List.mem_of_getElem? (by rw [Array.getElem?_toList]; exact hc))))
      · have hn : c ∈ lets := by simpa using h
        refine go_kb e ⟨_, rfl, fun k c' hk' hc' => ?_⟩
        by_cases hki : k = i
        · subst hki; rw [hc] at hc'; cases hc'; exact hn
        · exact hk k c' (by omega) hc'
    rintro σ' G2 e2 ⟨y, rfl, hk⟩
    have hall : allIn lets w0 = true := List.all_eq_true.mpr fun c hc => by
      obtain ⟨k, hk1, hk2⟩ := List.getElem_of_mem hc
      have h2 : w0.cps.toList[k]? = some c := by rw [List.getElem?_eq_getElem hk1, hk2]
      rw [Array.getElem?_toList] at h2
      exact decide_eq_true (hk k c (Array.getElem?_eq_some_iff.mp h2).1 h2)
    have hG' : gateM z = (match numsM mid, numM wd with
      | some ss, some n => some ⟨w0, ss, n⟩
      | _, _ => none) := by rw [hG]; unfold gateW; rw [if_pos ⟨hb.1, hb.2, hall⟩] <;> (cases numsM mid <;> cases numM wd <;> rfl)
    have hW2 := ex_l e2 hW1
    have hsl : EvL (tSl (rSlL K) (tVar 1) (tPart (tC (.int 1))) (tPart (tUn (rU fun i => .int (-i)) (tC (.int 2))))) [some (.str z), some (.ref pw), y, none] G2 (mid.map V.str) := by
      have := el_sl (K := K) (σ := [some (.str z), some (.ref pw), y, none]) (H := G2) (te := tVar 1) (tl := tPart (tC (.int 1))) (th := tPart (tUn (rU fun i => .int (-i)) (tC (.int 2)))) (ev_var rfl) (eo_some ev_c) (eo_some (ev_un ev_c ru_neg)) hW2
      have this : EvL _ _ _ (cutV (ws.map V.str) (some 1) (some (-2))) := this
      rw [hcut] at this
      exact this
    have numF : ∀ {σ : L2.St} {G : Hp} {E' : L2.St → XK} {te : TE} {y : Str}, (∀ H1, Ex H H1 → E (.ref (A.of .text)) none H1) → Ex H G → E' σ = E → Ev te σ G (.str y) → y.length ≤ 30000 → numM y = none → EvF (tCallS (sp_number K A) E' (tCons te tNil)) σ G := fun {σ G E' te y} hb e hE hy hl hn =>
      ef_call (vs := [.str y]) (ea_cons hy ea_nil) fun H1 e1 Q1 => ⟨y, rfl, by omega, out_err (x := .text) (by unfold numR; rw [hn]) fun H2 e2 => by rw [hE]; exact hb H2 ((e.trans e1).trans e2)⟩
    have e12 := e1.trans e2
    have hw0 : ∀ {σ : L2.St} {G : Hp}, σ[1]? = some (some (.ref pw)) → Ex G2 G → Ev (tOp (rIxL K) (tVar 1) (tC (.int 0))) σ G (.str w0) := fun hσ e => ev_op (ev_var hσ) ev_c (rv_ixL (ex_l e hW2) i0)
    have hwd : ∀ {σ : L2.St} {G : Hp}, σ[1]? = some (some (.ref pw)) → Ex G2 G → Ev (tOp (rIxL K) (tVar 1) (tUn (rU fun i => .int (-i)) (tC (.int 1)))) σ G (.str wd) := fun hσ e => ev_op (ev_var hσ) (ev_un ev_c ru_neg) (rv_ixL (ex_l e hW2) i1)
    cases hm : numsM mid with
    | none =>
      obtain ⟨k, y0, hk0, hn0, hbef⟩ := numsM_none hm
      have hbad := bad (by rw [hG', hm])
      refine go_retF (ef_tup (eaf_tl (hw0 rfl (Ex.refl _)) (eaf_hd (ef_cb (eaf_hd (ef_lcNL mid V.str k y0 hsl hmidn (fun _ => rfl) hk0 (fun i x hi hx => ?_) (numF hbad e12 rfl (ev_var rfl) (hmidl y0 (List.mem_of_getElem? hk0)) hn0)))))))
      obtain ⟨n, hn⟩ := hbef i x hi hx
      exact ⟨_, EvP.of (ev_callS (ea_cons (ev_var rfl) ea_nil) (sv_number (by have := hmidl x (List.mem_of_getElem? hx); omega) hn))⟩
    | some ss =>
      obtain ⟨hss, hall2⟩ := numsM_some hm
      have el : ∀ {E' : L2.St → XK}, EvL (tLc (iList K (tSl (rSlL K) (tVar 1) (tPart (tC (.int 1))) (tPart (tUn (rU fun i => .int (-i)) (tC (.int 2)))))) (gName 3) tYes (tCallS (sp_number K A) E' (tCons (tVar 3) tNil)) [3]) [some (.str z), some (.ref pw), y, none] G2 (ss.map V.int) := fun {E'} => by
        have := el_lcNA (K := K) (te := tCallS (sp_number K A) E' (tCons (tVar 3) tNil)) (j := 3) (vs := [3]) mid V.str (fun z => V.int ((numM z).getD 0)) hsl hmidn (fun _ => rfl) (fun x hx => by
          obtain ⟨n, hn⟩ := hall2 x hx
          rw [hn]
          exact ev_callS (ea_cons (ev_var rfl) ea_nil) (sv_number (by have := hmidl x hx; omega) hn))
        rw [← hss, List.map_map]
        exact this
      cases hd : numM wd with
      | none =>
        have hbad := bad (by rw [hG', hm, hd])
        exact go_retF (ef_tup (eaf_tl (hw0 rfl (Ex.refl _)) (eaf_tlP (ep_U (eu_tupNL el)) fun v G' e' _ => eaf_hd (numF hbad (e12.trans e') rfl (hwd rfl e') hwdl hd))))
      | some n =>
        exact go_retP (ep_gateP (z := w0) (ss := ss) (d := n) (hw0 rfl (Ex.refl _)) (ep_TupU (eu_tupNL el)) fun G' e' => ev_callS (ea_cons (hwd rfl e') ea_nil) (sv_number (by omega) hd)) fun v G' H1 e3 e4 hg => o.ok ⟨w0, ss, n⟩ (by unfold gateR; rw [hG', hm, hd]) ((e12.trans e3).trans e4) (hg.mono e4)

end

section
variable {P : Program} {w : World} {K : PySem.W.Frag} {mg : Str → Option Value} {base : Heap} {A : Ads}
def sp_wants (K : PySem.W.Frag) (A : Ads) : Sp := fun vs H Q E => ∃ z, vs = [.str z] ∧ Out A H Q E (RT1 K fun b : Int × Int => [.int b.1, .int b.2]) (wantsM z)
theorem ok_wants {f : Addr} {fd : FuncData} (F : Fun K "wants" "wants" s_wants f fd) (T : Txt K w mg A)  : FnOk P w K mg base (L2.CX P w) 1 f fd ["kind"] (sp_wants K A) := by
  refine F.okX sc_wants (fun vs H Q E h => ?_) (fun cdv A_ outer s H vs Q E hr h => ?_)
  · obtain ⟨z, rfl, _⟩ := h; rfl
  · obtain ⟨z, rfl, o⟩ := h
    refine ⟨_, (pss_cons (ps_if (pt_cmpR (op_notIn_least T.d_LEAST) (pv 0) (pe_glob (v := .ref A.LEAST) rfl T.c_LEAST rfl) rfl) (pss_cons (ps_raise rfl (takes_of rfl rfl rfl rfl) (pmk_own PySem.F.excBase_ValueError T.x_NoKind T.g_NoKind T.k_NoKind (raises_own T.b_NoKind T.t_NoKind) rfl)) pss_nil) pss_nil) (pss_cons (ps_set (i := 1) sc_wants.nd rfl (.inl rfl) (pe_ix (ix_least T.d_LEAST) (pe_glob (v := .ref A.LEAST) rfl T.c_LEAST rfl) (pv 0) (fun _ _ => rfl))) (pss_cons (ps_if (pt_cmpR op_eq (pv 1) pe_int (nomark _)) (pss_cons (ps_ret (pe_tup (pa_cons (pv 1) (pa_cons (pe_gv rfl T.c_MANY_SOURCES) pa_nil)))) pss_nil) pss_nil) (pss_cons (ps_ret (pe_tup (pa_cons (pv 1) (pa_cons (pv 1) pa_nil)))) pss_nil)))), ?_⟩
    try dsimp only [cxOf, Cx.blk]
    refine Go.start (σ := [some (.str z), none]) ?_
    refine go_when (b := !(least z).isSome) (et_test (ev_op (ev_var rfl) ev_c rv_notLeast)) (fun h => ?_) (fun h => ?_)
    · cases e : least z with
      | none => exact go_raise fun _ _ H1 e1 => o.err .kind (by unfold wantsM; rw [e]) e1
      | some i => rw [e] at h; cases h
    · cases e : least z with
      | none => rw [e] at h; cases h
      | some i =>
        refine go_asg (ev_op ev_c (ev_var rfl) (rv_itLeast e)) ?_
        refine go_when (et_test (by walk_at "ev")) (fun h => ?_) (fun h => ?_)
        · have h2 : i = 2 := of_decide_eq_true h
          refine go_retU (eu_tup (by walk_at "ea") (by show 2 ≤ 100000; decide)) fun p H1 hp e1 h1 => ?_
          exact o.ok (2, 9) (by unfold wantsM; rw [e, h2]; rfl) e1 ⟨p, rfl, by rw [h2] at h1; exact st_of h1⟩
        · have h2 : ¬ i = 2 := of_decide_eq_false h
          refine go_retU (eu_tup (by walk_at "ea") (by show 2 ≤ 100000; decide)) fun p H1 hp e1 h1 => ?_
          exact o.ok (i, i) (by unfold wantsM; rw [e]; simp [h2]) e1 ⟨p, rfl, st_of h1⟩

end

section
variable {P : Program} {w : World} {K : PySem.W.Frag} {mg : Str → Option Value} {base : Heap} {A : Ads}
def sp_checked_gate (K : PySem.W.Frag) (A : Ads) : Sp := fun vs H Q E => ∃ v g lines, vs = [v, .int lines] ∧ GateAt K H v g ∧ Out A H Q E (RV1 fun _ : Unit => .non) (orErr (errGate g lines) ())
theorem ok_checked_gate {f : Addr} {fd : FuncData} (F : Fun K "checked_gate" "checked_gate" s_checked_gate f fd) (T : Txt K w mg A) (c_wants : CalX P w K mg base 1 "wants" (sp_wants K A)) : FnOk P w K mg base (L2.CX P w) 2 f fd ["gate", "lines"] (sp_checked_gate K A) := by
  refine F.okX sc_checked_gate (fun vs H Q E h => ?_) (fun cdv A_ outer s H vs Q E hr h => ?_)
  · obtain ⟨v, g, lines, rfl, _⟩ := h; rfl
  · obtain ⟨v, g, lines, rfl, ⟨ga, gs, rfl, hG, hS⟩, o⟩ := h
    refine ⟨_, (pss_cons (ps_set (i := 2) sc_checked_gate.nd rfl (.inl rfl) (pe_cx c_wants hr (by decide) rfl (takes_of rfl rfl rfl rfl) (pa_cons (pe_ix (ixT K) (pv 0) pe_int (fun _ _ => rfl)) pa_nil))) (pss_cons (ps_if (pt_not (pt_chain op_le op_le (pe_ix (ixT K) (pv 2) pe_int (fun _ _ => rfl)) (pe_callB (c_len K) (by rfl) T.n_len PySem.boot_len (pa_cons (pe_ix (ixT K) (pv 0) pe_int (fun _ _ => rfl)) pa_nil)) (pe_ix (ixT K) (pv 2) pe_int (fun _ _ => rfl)))) (pss_cons (ps_raise rfl (takes_of rfl rfl rfl rfl) (pmk_own PySem.F.excBase_ValueError T.x_NoSources T.g_NoSources T.k_NoSources (raises_own T.b_NoSources T.t_NoSources) rfl)) pss_nil) pss_nil) (pss_cons (ps_for (passes_of rfl) rfl (pi_T K (pe_ix (ixT K) (pv 0) pe_int (fun _ _ => rfl))) (pg_name (i := 3) sc_checked_gate.nd rfl (.inl rfl)) (pss_cons (ps_if (pt_not (pt_chain op_le op_lt pe_int (pv 3) (pv 1))) (pss_cons (ps_raise rfl (takes_of rfl rfl rfl rfl) (pmk_own PySem.F.excBase_ValueError T.x_NoLine T.g_NoLine T.k_NoLine (raises_own T.b_NoLine T.t_NoLine) rfl)) pss_nil) pss_nil) pss_nil)) (pss_cons (ps_if (pt_not (pt_chain op_le op_le pe_int (pe_ix (ixT K) (pv 0) pe_int (fun _ _ => rfl)) (pe_gv rfl T.c_MOST_DELAY))) (pss_cons (ps_raise rfl (takes_of rfl rfl rfl rfl) (pmk_own PySem.F.excBase_ValueError T.x_NoDelay T.g_NoDelay T.k_NoDelay (raises_own T.b_NoDelay T.t_NoDelay) rfl)) pss_nil) pss_nil) pss_nil)))), ?_⟩
    try dsimp only [cxOf, Cx.blk]
    refine Go.start (σ := [some (.ref ga), some (.int lines), none, none]) ?_
    have i0 : atI [V.str g.kind, .ref gs, .int g.delay] 0 = some (.str g.kind) := rfl
    have i1 : atI [V.str g.kind, .ref gs, .int g.delay] 1 = some (.ref gs) := rfl
    have i2 : atI [V.str g.kind, .ref gs, .int g.delay] 2 = some (.int g.delay) := rfl
    cases hw : wantsM g.kind with
    | error x =>
      refine go_asgF (ef_call (by walk_at "ea") fun H1 e1 Q1 => ⟨g.kind, rfl, out_err hw fun H2 e2 => ?_⟩)
      exact o.err x (by unfold errGate; rw [hw]; rfl) (e1.trans e2)
    | ok b =>
      obtain ⟨lo, hi⟩ := b
      refine go_asgP (ep_call (by walk_at "ea") (spg_out (r := wantsM g.kind) (R := RT1 K fun b : Int × Int => [.int b.1, .int b.2]) (A := A) (fun H1 e1 Q1 E1 o1 => ⟨g.kind, rfl, o1⟩) hw)) (fun v G1 e1 hv => ?_)
      obtain ⟨H0, _, _, p, rfl, hp⟩ := hv
      have hp : SqT K G1 p [.int lo, .int hi] := hp
      have hG1 := ex_t e1 hG
      have hS1 := ex_t e1 hS
      have j0 : atI [V.int lo, V.int hi] 0 = some (.int lo) := rfl
      have j1 : atI [V.int lo, V.int hi] 1 = some (.int hi) := rfl
      have hl : (g.srcs.map V.int).length = g.srcs.length := List.length_map _
      refine go_when (by walk_at "et") (fun h => ?_) (fun h => ?_)
      · have h2 : ¬ (lo ≤ (g.srcs.length : Int) ∧ (g.srcs.length : Int) ≤ hi) := fun ⟨p, q⟩ => by simp [p, q] at h
        exact go_raise fun _ _ H1 e2 => o.err .sources (by unfold errGate; rw [hw]; simp only [h2, not_false_eq_true, if_true]; rfl) (e1.trans e2)
      have h2 : lo ≤ (g.srcs.length : Int) ∧ (g.srcs.length : Int) ≤ hi := by simpa using h
      refine go_forT G1 (by walk_at "ev") (Ex.refl _) hS1 (fun i σ' G' => ∃ y, σ' = [some (.ref ga), some (.int lines), some (.ref p), y] ∧ ∀ k, k < i → ∀ s, g.srcs[k]? = some s → 0 ≤ s ∧ s < lines) ⟨none, rfl, fun k hk => by omega⟩ ?_ ?_
      · rintro i x σ' G' hx e2 ⟨y, rfl, hk⟩
        rw [List.getElem?_map] at hx
        cases hs : g.srcs[i]? with
        | none => rw [hs] at hx; cases hx
        | some s =>
          rw [hs] at hx
          cases hx
          refine go_when (by walk_at "et") (fun h => ?_) (fun h => ?_)
          · have h3 : ¬ (0 ≤ s ∧ s < lines) := fun ⟨p, q⟩ => by simp [p, q] at h
            have h4 : (g.srcs.any fun s => !(decide (0 ≤ s) && decide (s < lines))) = true := List.any_eq_true.mpr ⟨s, List.mem_of_getElem? hs, h⟩
            exact go_raise fun _ _ H1 e3 => o.err .line (by unfold errGate; rw [hw]; simp only [h2, and_self, not_true_eq_false, if_false, h4, if_true]; rfl) ((e1.trans e2).trans e3)
          · have h3 : 0 ≤ s ∧ s < lines := by simpa using h
            refine go_kb e2 ⟨_, rfl, fun k hk' s' hs' => ?_⟩
            by_cases c : k = i
            · subst c; rw [hs] at hs'; cases hs'; exact h3
            · exact hk k (by omega) s' hs'
      · rintro σ' G' e2 ⟨y, rfl, hk⟩
        have hG2 := ex_t e2 hG1
        have h4 : (g.srcs.any fun s => !(decide (0 ≤ s) && decide (s < lines))) = false := by
          rw [List.any_eq_false]
          intro s hs
          obtain ⟨k, hk1, hk2⟩ := List.getElem_of_mem hs
          have := hk k (by rw [List.length_map]; exact hk1) s (by rw [List.getElem?_eq_getElem hk1, hk2])
          simp [this.1, this.2]
        refine go_when (by walk_at "et") (fun h => ?_) (fun h => ?_)
        · have h3 : ¬ (1 ≤ g.delay ∧ g.delay ≤ 60) := fun ⟨p, q⟩ => by simp [p, q] at h
          exact go_raise fun _ _ H1 e3 => o.err .delay (by unfold errGate; rw [hw]; simp only [h2, and_self, not_true_eq_false, if_false, h4, h3, not_false_eq_true, if_true]; rfl) ((e1.trans e2).trans e3)
        · have h3 : 1 ≤ g.delay ∧ g.delay ≤ 60 := by simpa using h
          exact go_next fun H1 e3 => o.ok () (by unfold errGate; rw [hw]; simp only [h2, and_self, not_true_eq_false, if_false, h4, h3]; rfl) ((e1.trans e2).trans e3) rfl

end

section
variable {P : Program} {w : World} {K : PySem.W.Frag} {mg : Str → Option Value} {base : Heap} {A : Ads}
def sp_checked (K : PySem.W.Frag) (A : Ads) : Sp := fun vs H Q E => ∃ v p, vs = [v] ∧ PlanAt K H v p ∧ Out A H Q E (RV1 V.int) (checkedM p)
theorem sv_checked {K : PySem.W.Frag} {A : Ads} {G : Hp} {v : V} {p : Plan} (h : PlanAt K G v p) (hv : Valid p) : SpV (sp_checked K A) [v] G (.int p.lines) :=
  spv_out (r := checkedM p) (A := A) (f := V.int) (fun H1 e1 Q1 E1 o1 => ⟨v, p, rfl, h.mono e1, o1⟩) (by unfold checkedM; rw [valid_iff.mpr hv]; rfl)
theorem ok_checked {f : Addr} {fd : FuncData} (F : Fun K "checked" "checked" s_checked f fd) (T : Txt K w mg A) (c_checked_gate : CalX P w K mg base 2 "checked_gate" (sp_checked_gate K A)) : FnOk P w K mg base (L2.CX P w) 3 f fd ["plan"] (sp_checked K A) := by
  refine F.okX sc_checked (fun vs H Q E h => ?_) (fun cdv A_ outer s H vs Q E hr h => ?_)
  · obtain ⟨v, p, rfl, _⟩ := h; rfl
  · obtain ⟨v, p, rfl, ⟨a, g, rfl, hP, vs, hL, hR⟩, o⟩ := h
    refine ⟨_, (pss_cons (ps_if (PW.pt (pw_or (pt_not (pt_chain op_le op_le pe_int (pe_ix (ixT K) (pv 0) pe_int (fun _ _ => rfl)) (pe_gv rfl T.c_MANY_INPUTS))) (pw_or1 (pt_cmpR op_gt (pe_callB (c_len K) (by rfl) T.n_len PySem.boot_len (pa_cons (pe_ix (ixT K) (pv 0) pe_int (fun _ _ => rfl)) pa_nil)) (pe_gv rfl T.c_MANY_GATES) (nomark _))))) (pss_cons (ps_raise rfl (takes_of rfl rfl rfl rfl) (pmk_own PySem.F.excBase_ValueError T.x_NoSize T.g_NoSize T.k_NoSize (raises_own T.b_NoSize T.t_NoSize) rfl)) pss_nil) pss_nil) (pss_cons (ps_set (i := 1) sc_checked.nd rfl (.inl rfl) (pe_op op_add (pe_ix (ixT K) (pv 0) pe_int (fun _ _ => rfl)) (pe_callB (c_len K) (by rfl) T.n_len PySem.boot_len (pa_cons (pe_ix (ixT K) (pv 0) pe_int (fun _ _ => rfl)) pa_nil)))) (pss_cons (ps_for (passes_of rfl) rfl (pi_L K (pe_ix (ixT K) (pv 0) pe_int (fun _ _ => rfl))) (pg_name (i := 2) sc_checked.nd rfl (.inl rfl)) (pss_cons (ps_expr (pe_cx c_checked_gate hr (by decide) rfl (takes_of rfl rfl rfl rfl) (pa_cons (pv 2) (pa_cons (pv 1) pa_nil)))) pss_nil)) (pss_cons (ps_ret (pv 1)) pss_nil)))), ?_⟩
    try dsimp only [cxOf, Cx.blk]
    refine Go.start (σ := [some (.ref a), none, none]) ?_
    have i0 : atI [V.int p.many, .ref g] 0 = some (.int p.many) := rfl
    have i1 : atI [V.int p.many, .ref g] 1 = some (.ref g) := rfl
    have hl : (vs.length : Int) = p.gates.length := by rw [hR.1]
    refine go_when (by walk_at "et") (fun h => ?_) (fun h => ?_)
    · have h2 : ¬ (0 ≤ p.many ∧ p.many ≤ 60) ∨ 200 < p.gates.length := by
        by_cases c : 0 ≤ p.many ∧ p.many ≤ 60
        · right
          simp only [c.1, c.2, decide_true, Bool.and_self, Bool.not_true, Bool.false_or, decide_eq_true_eq] at h
          omega
        · exact .inl c
      exact go_raise fun _ _ H1 e2 => o.err .size (by unfold checkedM errPlan; rw [if_pos h2]; rfl) e2
    have h2 : ¬ (¬ (0 ≤ p.many ∧ p.many ≤ 60) ∨ 200 < p.gates.length) := by
      simp only [Bool.or_eq_false_iff, Bool.not_eq_false', Bool.and_eq_true, decide_eq_true_eq, decide_eq_false_iff_not] at h
      rintro (c | c)
      · exact c h.1
      · have := h.2; omega
    refine go_asg (v := .int p.lines) (ev_is (by walk_at "ev") (by rw [hl]; rfl)) ?_
    refine go_forL H (by walk_at "ev") (Ex.refl _) hL (fun i σ' G' => ∃ y, σ' = [some (.ref a), some (.int p.lines), y] ∧ ∀ k g, k < i → p.gates[k]? = some g → errGate g p.lines = none) ⟨none, rfl, fun k g hk => by omega⟩ ?_ ?_
    · rintro i x σ' G' hx e2 ⟨y, rfl, hk⟩
      obtain ⟨gt, hg, hga⟩ := rows_get' hR hx
      cases he : errGate gt p.lines with
      | some e =>
        refine go_dropF (ef_call (by walk_at "ea") fun H1 e1 Q1 => ⟨x, gt, p.lines, rfl, hga.mono (e2.trans e1), out_err (x := e) (by rw [he]; rfl) fun H2 e3 => ?_⟩)
        exact o.err e (by unfold checkedM errPlan; rw [if_neg h2, errGates_first hk hg he]; rfl) ((e2.trans e1).trans e3)
      | none =>
        refine go_drop (ev_callS (by walk_at "ea") (spv_out (r := orErr (errGate gt p.lines) ()) (A := A) (f := fun _ : Unit => .non) (a := ()) (fun H1 e1 Q1 E1 o1 => ⟨x, gt, p.lines, rfl, hga.mono (e2.trans e1), o1⟩) (by rw [he]; rfl))) ?_
        refine go_kb e2 ⟨_, rfl, fun k g' hk' hg' => ?_⟩
        by_cases c : k = i
        · subst c; rw [hg] at hg'; cases hg'; exact he
        · exact hk k g' (by omega) hg'
    · rintro σ' G' e2 ⟨y, rfl, hk⟩
      refine go_ret (by walk_at "ev") fun H1 e3 => o.ok p.lines ?_ (e2.trans e3) rfl
      unfold checkedM errPlan
      rw [if_neg h2, errGates_all fun k g hg => hk k g (by rw [hR.1]; exact (List.getElem?_eq_some_iff.mp hg).1) hg]
      rfl

end
local macro_rules | `(tactic| walk_at "sv") => `(tactic| exact sv_checked (by walk_at "sd") (by walk_at "sd"))

section
variable {P : Program} {w : World} {K : PySem.W.Frag} {mg : Str → Option Value} {base : Heap} {A : Ads}
def sp_read (K : PySem.W.Frag) (A : Ads) : Sp := fun vs H Q E => ∃ z, vs = [.str z] ∧ z.length ≤ 30000 ∧ Out A H Q E (fun _ v H' p => PlanAt K H' v p) (readR z)
theorem ok_read {f : Addr} {fd : FuncData} (F : Fun K "read" "read" s_read f fd) (T : Txt K w mg A) (c_number : CalX P w K mg base 1 "number" (sp_number K A)) (c_gate_of : CalX P w K mg base 2 "gate_of" (sp_gate_of K A)) (c_checked : CalX P w K mg base 3 "checked" (sp_checked K A)) : FnOk P w K mg base (L2.CX P w) 4 f fd ["text"] (sp_read K A) := by
  refine F.okX sc_read (fun vs H Q E h => ?_) (fun cdv A_ outer s H vs Q E hr h => ?_)
  · obtain ⟨z, rfl, _⟩ := h; rfl
  · obtain ⟨z, rfl, hz, o⟩ := h
    refine ⟨_, (pss_cons (ps_set (i := 1) sc_read.nd rfl (.inl rfl) (pe_splitN (pv 0) pe_str)) (pss_cons (ps_if (pt_cmpR op_ne (pe_slice C8.sl_txt (pe_ix (ixL K) (pv 1) pe_int (fun _ _ => rfl)) po_none (po_some pe_int)) pe_str (nomark _)) (pss_cons (ps_raise rfl (takes_of rfl rfl rfl rfl) (pmk_own PySem.F.excBase_ValueError T.x_NoText T.g_NoText T.k_NoText (raises_own T.b_NoText T.t_NoText) rfl)) pss_nil) pss_nil) (pss_cons (ps_set (i := 2) sc_read.nd rfl (.inl rfl) (pe_tup (pa_cons (pe_cx c_number hr (by decide) rfl (takes_of rfl rfl rfl rfl) (pa_cons (pe_slice C8.sl_txt (pe_ix (ixL K) (pv 1) pe_int (fun _ _ => rfl)) (po_some pe_int) po_none) pa_nil)) (pa_cons (pe_lcE (own := [("row", 3)]) (g := gName 3) (tt := tYes) rfl rfl rfl rfl rfl sc_read.nd (pi_L K (pe_slice (slL K) (pv 1) (po_some pe_int) po_none)) (blkOk_by (own := [("row", 3)]) (N := ["text", "rows", "plan", "row"]) (sc := defScope s_read) (by decide +kernel)) (fun _ _ _ _ _ => pg_name (i := 3) sc_read.nd rfl (Or.inl rfl)) (fun _ _ _ _ _ => pts_nil) (fun _ _ _ _ _ => (pe_cxB c_gate_of hr (by decide) rfl (pa_cons (pv 3) pa_nil)))) pa_nil)))) (pss_cons (ps_expr (pe_cx c_checked hr (by decide) rfl (takes_of rfl rfl rfl rfl) (pa_cons (pv 2) pa_nil))) (pss_cons (ps_ret (pv 2)) pss_nil))))), ?_⟩
    try dsimp only [cxOf, Cx.blk]
    refine Go.start (σ := [some (.str z), none, none, none]) ?_
    have bad : parseM z = none → ∀ H1, Ex H H1 → E (.ref (A.of .text)) none H1 := fun h H1 e => o.err .text (by unfold readR; rw [h]) e
    refine go_asgL (el_split (b := "\n") (ev_var rfl) ev_c (by decide +kernel) (by omega)) fun pw hpw => ?_
    have hwl : ∀ t ∈ Txt.split z "\n", t.length ≤ 30000 := fun t ht => by have := word_len ht; omega
    have hmany := split_many z "\n"
    have hgm : parseM z = parseL (Txt.split z "\n") := rfl
    have hne := split_ne z
    generalize Txt.split z "\n" = ws at *
    obtain ⟨r0, rest, rfl⟩ := List.exists_cons_of_ne_nil hne
    have e1 : Ex H (upd H pw (.lst ((r0 :: rest).map V.str))) := Ex.new hpw
    have hW1 : SqL K (upd H pw (.lst ((r0 :: rest).map V.str))) pw ((r0 :: rest).map V.str) := sq_of upd_same
    generalize upd H pw (.lst ((r0 :: rest).map V.str)) = G1 at *
    have i0 : atI ((r0 :: rest).map V.str) 0 = some (.str r0) := at_list (j := 0) rfl
    have hr0 := hwl r0 List.mem_cons_self
    have hrl : ∀ t ∈ rest, t.length ≤ 30000 := fun t ht => hwl t (List.mem_cons_of_mem _ ht)
    rw [List.length_cons] at hmany
    have hs1 := slice_len r0 none (some 3)
    have hs2 := slice_len r0 (some 3) none
    refine go_when (b := !decide (Txt.slice r0 none (some 3) = "in ")) (et_test (ev_op (ev_slX (ev_op (ev_var rfl) ev_c (rv_ixL hW1 i0)) eo_none (eo_some ev_c) (by omega)) ev_c rv_neS)) (fun h => ?_) (fun h => ?_)
    · have hn : ¬ Txt.slice r0 none (some 3) = "in " := by simpa using h
      exact go_raise fun _ _ H1 e2 => bad (by rw [hgm]; unfold parseL; simp only [if_neg hn]) H1 (e1.trans e2)
    have hin : Txt.slice r0 none (some 3) = "in " := by simpa using h
    have hG : parseM z = (match numM (Txt.slice r0 (some 3) none), gatesM rest with
      | some m, some gs => some ⟨m, gs⟩
      | _, _ => none) := by rw [hgm]; unfold parseL; simp only [if_pos hin] <;> (cases numM (Txt.slice r0 (some 3) none) <;> cases gatesM rest <;> rfl)
    have hnum : Ev (tSl C8.rSlX (tOp (rIxL K) (tVar 1) (tC (.int 0))) (tPart (tC (.int 3))) tNoPart) [some (.str z), some (.ref pw), none, none] G1 (.str (Txt.slice r0 (some 3) none)) := ev_slX (ev_op (ev_var rfl) ev_c (rv_ixL hW1 i0)) (eo_some ev_c) eo_none (by omega)
    cases hm : numM (Txt.slice r0 (some 3) none) with
    | none =>
      have hbad := bad (by rw [hG, hm])
      exact go_asgF (ef_tup (eaf_hd (ef_call (vs := [.str (Txt.slice r0 (some 3) none)]) (ea_cons hnum ea_nil) fun H1 e2 Q1 => ⟨_, rfl, by omega, out_err (x := .text) (by unfold numR; rw [hm]) fun H2 e3 => hbad H2 ((e1.trans e2).trans e3)⟩)))
    | some m =>
    have hn1 : ∀ {E' : L2.St → XK}, Ev (tCallS (sp_number K A) E' (tCons (tSl C8.rSlX (tOp (rIxL K) (tVar 1) (tC (.int 0))) (tPart (tC (.int 3))) tNoPart) tNil)) [some (.str z), some (.ref pw), none, none] G1 (.int m) := ev_callS (ea_cons hnum ea_nil) (sv_number (by omega) hm)
    have hsl : EvL (tSl (rSlL K) (tVar 1) (tPart (tC (.int 1))) tNoPart) [some (.str z), some (.ref pw), none, none] G1 (rest.map V.str) := by
      have := el_sl (K := K) (σ := [some (.str z), some (.ref pw), none, none]) (H := G1) (te := tVar 1) (tl := tPart (tC (.int ((1 : Nat) : Int)))) (th := tNoPart) (ev_var rfl) (eo_some ev_c) eo_none hW1
      rw [cutV_from] at this
      exact this
    cases hg : gatesM rest with
    | none =>
      have hbad := bad (by rw [hG, hm, hg])
      obtain ⟨k, y0, hk0, hn0, hbef⟩ := gatesM_none hg
      refine go_asgF (ef_tup (eaf_tl hn1 (eaf_hd (ef_lcNL rest V.str k y0 hsl (by omega) (fun _ => rfl) hk0 (fun i x hi hx => ?_) (ef_call (vs := [.str y0]) (ea_cons (ev_var rfl) ea_nil) fun H1 e2 Q1 => ⟨_, rfl, hrl y0 (List.mem_of_getElem? hk0), out_err (x := .text) (by unfold gateR; rw [hn0]) fun H2 e3 => hbad H2 ((e1.trans e2).trans e3)⟩)))))
      obtain ⟨g, hgx⟩ := hbef i x hi hx
      exact ⟨_, ep_call (ea_cons (ev_var rfl) ea_nil) (sg_gate_of (hrl x (List.mem_of_getElem? hx)) hgx)⟩
    | some gs =>
    obtain ⟨hgs, hall⟩ := gatesM_some hg
    have hp : parseM z = some ⟨m, gs⟩ := by rw [hG, hm, hg]
    refine go_asgP (P := fun v G' => PlanAt K G' v ⟨m, gs⟩) (ep_planP (p := ⟨m, gs⟩) hn1 (by
      have := ep_lcPN (te := tCallS (sp_gate_of K A) (fun _ => E) (tCons (tVar 3) tNil)) (K := K) (R := GateAt K) (G := G1) (j := 3) (vs := [3]) rest V.str (fun z => (gateM z).getD gateE) (lasts_gate K) hsl (by omega) (fun _ => rfl) (fun x hx => by
        obtain ⟨g, hgx⟩ := hall x hx
        rw [hgx]
        exact ep_call (sp := sp_gate_of K A) (E := fun _ => E) (ea_cons (ev_var rfl) ea_nil) (sg_gate_of (hrl x hx) hgx))
      rw [hgs] at this
      exact this)) fun v G2 e2 hpl => ?_
    cases he : errPlan ⟨m, gs⟩ with
    | some e =>
      refine go_dropF (ef_call (vs := [v]) (ea_cons (ev_var rfl) ea_nil) fun H1 e3 Q1 => ⟨v, _, rfl, hpl.mono e3, out_err (x := e) (by unfold checkedM; rw [he]; rfl) fun H2 e4 => ?_⟩)
      exact o.err e (by unfold readR; rw [hp]; show orErr (errPlan ⟨m, gs⟩) _ = _; rw [he]; rfl) (((e1.trans e2).trans e3).trans e4)
    | none =>
      refine go_drop (ev_callS (ea_cons (ev_var rfl) ea_nil) (sv_checked hpl (valid_iff.mp he))) ?_
      exact go_ret (ev_var rfl) fun H1 e3 => o.ok ⟨m, gs⟩ (by unfold readR; rw [hp]; show orErr (errPlan ⟨m, gs⟩) _ = _; rw [he]; rfl) ((e1.trans e2).trans e3) (hpl.mono e3)

end

section
variable {P : Program} {w : World} {K : PySem.W.Frag} {mg : Str → Option Value} {base : Heap} {A : Ads}
def sp_l_class (K : PySem.W.Frag) (A : Ads) : Addr → Value → Option Addr → Sp := fun a cls d vs H Q E => ∃ x : Err, vs = [.ref a] ∧ cls = .ref (A.of x) ∧ d = none ∧ RetV (.str (errWord x)) H Q
theorem sv_class {K : PySem.W.Frag} {A : Ads} {G : Hp} {a : Addr} {x : Err} : SpV (sp_l_class K A a (.ref (A.of x)) none) [.ref a] G (.str (errWord x)) := fun _ _ _ q _ => ⟨x, rfl, rfl, rfl, q⟩
theorem T_e (T : Txt K w mg A) : ∀ x : Err, ExcC K (A.of x)
  | .size => T.e_NoSize
  | .kind => T.e_NoKind
  | .sources => T.e_NoSources
  | .line => T.e_NoLine
  | .delay => T.e_NoDelay
  | .values => T.e_NoValues
  | .ringed => T.e_Ringed
  | .deed => T.e_NoDeed
  | .text => T.e_NoText
theorem T_v (T : Txt K w mg A) : ∀ x : Err, PySem.W.kitOne K (.ref (A.of x)) (.type "ValueError") = some true
  | .size => T.v_NoSize
  | .kind => T.v_NoKind
  | .sources => T.v_NoSources
  | .line => T.v_NoLine
  | .delay => T.v_NoDelay
  | .values => T.v_NoValues
  | .ringed => T.v_Ringed
  | .deed => T.v_NoDeed
  | .text => T.v_NoText
theorem T_m (T : Txt K w mg A) : ∀ x : Err, PySem.W.exmOne K (.ref (A.of x)) (.ref A.SignalError) = some true
  | .size => T.m_NoSize_SignalError
  | .kind => T.m_NoKind_SignalError
  | .sources => T.m_NoSources_SignalError
  | .line => T.m_NoLine_SignalError
  | .delay => T.m_NoDelay_SignalError
  | .values => T.m_NoValues_SignalError
  | .ringed => T.m_Ringed_SignalError
  | .deed => T.m_NoDeed_SignalError
  | .text => T.m_NoText_SignalError
theorem T_j (T : Txt K w mg A) : ∀ x z : Err, PySem.W.kitOne K (.ref (A.of x)) (.ref (A.of z)) = some (decide (x = z))
  | .size, .size => T.j_NoSize_NoSize
  | .size, .kind => T.j_NoSize_NoKind
  | .size, .sources => T.j_NoSize_NoSources
  | .size, .line => T.j_NoSize_NoLine
  | .size, .delay => T.j_NoSize_NoDelay
  | .size, .values => T.j_NoSize_NoValues
  | .size, .ringed => T.j_NoSize_Ringed
  | .size, .deed => T.j_NoSize_NoDeed
  | .size, .text => T.j_NoSize_NoText
  | .kind, .size => T.j_NoKind_NoSize
  | .kind, .kind => T.j_NoKind_NoKind
  | .kind, .sources => T.j_NoKind_NoSources
  | .kind, .line => T.j_NoKind_NoLine
  | .kind, .delay => T.j_NoKind_NoDelay
  | .kind, .values => T.j_NoKind_NoValues
  | .kind, .ringed => T.j_NoKind_Ringed
  | .kind, .deed => T.j_NoKind_NoDeed
  | .kind, .text => T.j_NoKind_NoText
  | .sources, .size => T.j_NoSources_NoSize
  | .sources, .kind => T.j_NoSources_NoKind
  | .sources, .sources => T.j_NoSources_NoSources
  | .sources, .line => T.j_NoSources_NoLine
  | .sources, .delay => T.j_NoSources_NoDelay
  | .sources, .values => T.j_NoSources_NoValues
  | .sources, .ringed => T.j_NoSources_Ringed
  | .sources, .deed => T.j_NoSources_NoDeed
  | .sources, .text => T.j_NoSources_NoText
  | .line, .size => T.j_NoLine_NoSize
  | .line, .kind => T.j_NoLine_NoKind
  | .line, .sources => T.j_NoLine_NoSources
  | .line, .line => T.j_NoLine_NoLine
  | .line, .delay => T.j_NoLine_NoDelay
  | .line, .values => T.j_NoLine_NoValues
  | .line, .ringed => T.j_NoLine_Ringed
  | .line, .deed => T.j_NoLine_NoDeed
  | .line, .text => T.j_NoLine_NoText
  | .delay, .size => T.j_NoDelay_NoSize
  | .delay, .kind => T.j_NoDelay_NoKind
  | .delay, .sources => T.j_NoDelay_NoSources
  | .delay, .line => T.j_NoDelay_NoLine
  | .delay, .delay => T.j_NoDelay_NoDelay
  | .delay, .values => T.j_NoDelay_NoValues
  | .delay, .ringed => T.j_NoDelay_Ringed
  | .delay, .deed => T.j_NoDelay_NoDeed
  | .delay, .text => T.j_NoDelay_NoText
  | .values, .size => T.j_NoValues_NoSize
  | .values, .kind => T.j_NoValues_NoKind
  | .values, .sources => T.j_NoValues_NoSources
  | .values, .line => T.j_NoValues_NoLine
  | .values, .delay => T.j_NoValues_NoDelay
  | .values, .values => T.j_NoValues_NoValues
  | .values, .ringed => T.j_NoValues_Ringed
  | .values, .deed => T.j_NoValues_NoDeed
  | .values, .text => T.j_NoValues_NoText
  | .ringed, .size => T.j_Ringed_NoSize
  | .ringed, .kind => T.j_Ringed_NoKind
  | .ringed, .sources => T.j_Ringed_NoSources
  | .ringed, .line => T.j_Ringed_NoLine
  | .ringed, .delay => T.j_Ringed_NoDelay
  | .ringed, .values => T.j_Ringed_NoValues
  | .ringed, .ringed => T.j_Ringed_Ringed
  | .ringed, .deed => T.j_Ringed_NoDeed
  | .ringed, .text => T.j_Ringed_NoText
  | .deed, .size => T.j_NoDeed_NoSize
  | .deed, .kind => T.j_NoDeed_NoKind
  | .deed, .sources => T.j_NoDeed_NoSources
  | .deed, .line => T.j_NoDeed_NoLine
  | .deed, .delay => T.j_NoDeed_NoDelay
  | .deed, .values => T.j_NoDeed_NoValues
  | .deed, .ringed => T.j_NoDeed_Ringed
  | .deed, .deed => T.j_NoDeed_NoDeed
  | .deed, .text => T.j_NoDeed_NoText
  | .text, .size => T.j_NoText_NoSize
  | .text, .kind => T.j_NoText_NoKind
  | .text, .sources => T.j_NoText_NoSources
  | .text, .line => T.j_NoText_NoLine
  | .text, .delay => T.j_NoText_NoDelay
  | .text, .values => T.j_NoText_NoValues
  | .text, .ringed => T.j_NoText_Ringed
  | .text, .deed => T.j_NoText_NoDeed
  | .text, .text => T.j_NoText_NoText
theorem ok_l_class {f : Addr} {fd : FuncData} (F : Fun K "_law_class" "_law_class" s_l_class f fd) (T : Txt K w mg A)  : FnE P w K mg base (L2.CX P w) 1 f fd ["_law_e"] (sp_l_class K A) := by
  refine Fun.okE F sc_l_class (fun a cls d vs H Q E h => ?_) (fun cdv A_ outer s H vs Q E a_ oe_ cls_ d_ hz_ hf_ hr h => ?_)
  · obtain ⟨x, rfl, _⟩ := h; rfl
  · obtain ⟨x, rfl, rfl, rfl, q⟩ := h
    refine ⟨_, (pss_cons (ps_set (i := 1) sc_l_class.nd rfl (.inl rfl) (pe_lst pa_nil)) (pss_cut (ps_if (pt_val (pe_callB (call_isP K hz_ hf_ List.mem_cons_self) (by rfl) T.n_isinstance (by decide +kernel) (pa_cons (pv 0) (pa_cons (pe_glob (v := .ref A.NoSize) rfl T.g_NoSize rfl) pa_nil)))) (pss_cons (ps_expr (pe_bm PySem.F.plainAttrs_list PySem.F.slot_list_append PySem.F.type_list_append mt_append (pv 1) (pa_cons pe_str pa_nil))) pss_nil) pss_nil) (pss_cut (ps_if (pt_val (pe_callB (call_isP K hz_ hf_ List.mem_cons_self) (by rfl) T.n_isinstance (by decide +kernel) (pa_cons (pv 0) (pa_cons (pe_glob (v := .ref A.NoKind) rfl T.g_NoKind rfl) pa_nil)))) (pss_cons (ps_expr (pe_bm PySem.F.plainAttrs_list PySem.F.slot_list_append PySem.F.type_list_append mt_append (pv 1) (pa_cons pe_str pa_nil))) pss_nil) pss_nil) (pss_cut (ps_if (pt_val (pe_callB (call_isP K hz_ hf_ List.mem_cons_self) (by rfl) T.n_isinstance (by decide +kernel) (pa_cons (pv 0) (pa_cons (pe_glob (v := .ref A.NoSources) rfl T.g_NoSources rfl) pa_nil)))) (pss_cons (ps_expr (pe_bm PySem.F.plainAttrs_list PySem.F.slot_list_append PySem.F.type_list_append mt_append (pv 1) (pa_cons pe_str pa_nil))) pss_nil) pss_nil) (pss_cut (ps_if (pt_val (pe_callB (call_isP K hz_ hf_ List.mem_cons_self) (by rfl) T.n_isinstance (by decide +kernel) (pa_cons (pv 0) (pa_cons (pe_glob (v := .ref A.NoLine) rfl T.g_NoLine rfl) pa_nil)))) (pss_cons (ps_expr (pe_bm PySem.F.plainAttrs_list PySem.F.slot_list_append PySem.F.type_list_append mt_append (pv 1) (pa_cons pe_str pa_nil))) pss_nil) pss_nil) (pss_cut (ps_if (pt_val (pe_callB (call_isP K hz_ hf_ List.mem_cons_self) (by rfl) T.n_isinstance (by decide +kernel) (pa_cons (pv 0) (pa_cons (pe_glob (v := .ref A.NoDelay) rfl T.g_NoDelay rfl) pa_nil)))) (pss_cons (ps_expr (pe_bm PySem.F.plainAttrs_list PySem.F.slot_list_append PySem.F.type_list_append mt_append (pv 1) (pa_cons pe_str pa_nil))) pss_nil) pss_nil) (pss_cut (ps_if (pt_val (pe_callB (call_isP K hz_ hf_ List.mem_cons_self) (by rfl) T.n_isinstance (by decide +kernel) (pa_cons (pv 0) (pa_cons (pe_glob (v := .ref A.NoValues) rfl T.g_NoValues rfl) pa_nil)))) (pss_cons (ps_expr (pe_bm PySem.F.plainAttrs_list PySem.F.slot_list_append PySem.F.type_list_append mt_append (pv 1) (pa_cons pe_str pa_nil))) pss_nil) pss_nil) (pss_cut (ps_if (pt_val (pe_callB (call_isP K hz_ hf_ List.mem_cons_self) (by rfl) T.n_isinstance (by decide +kernel) (pa_cons (pv 0) (pa_cons (pe_glob (v := .ref A.Ringed) rfl T.g_Ringed rfl) pa_nil)))) (pss_cons (ps_expr (pe_bm PySem.F.plainAttrs_list PySem.F.slot_list_append PySem.F.type_list_append mt_append (pv 1) (pa_cons pe_str pa_nil))) pss_nil) pss_nil) (pss_cut (ps_if (pt_val (pe_callB (call_isP K hz_ hf_ List.mem_cons_self) (by rfl) T.n_isinstance (by decide +kernel) (pa_cons (pv 0) (pa_cons (pe_glob (v := .ref A.NoDeed) rfl T.g_NoDeed rfl) pa_nil)))) (pss_cons (ps_expr (pe_bm PySem.F.plainAttrs_list PySem.F.slot_list_append PySem.F.type_list_append mt_append (pv 1) (pa_cons pe_str pa_nil))) pss_nil) pss_nil) (pss_cut (ps_if (pt_val (pe_callB (call_isP K hz_ hf_ List.mem_cons_self) (by rfl) T.n_isinstance (by decide +kernel) (pa_cons (pv 0) (pa_cons (pe_glob (v := .ref A.NoText) rfl T.g_NoText rfl) pa_nil)))) (pss_cons (ps_expr (pe_bm PySem.F.plainAttrs_list PySem.F.slot_list_append PySem.F.type_list_append mt_append (pv 1) (pa_cons pe_str pa_nil))) pss_nil) pss_nil) (pss_cons (ps_if (PW.pt (pw_and (pt_cmpR op_eq (pe_callB (c_len K) (by rfl) T.n_len PySem.boot_len (pa_cons (pv 1) pa_nil)) pe_int (nomark _)) (pw_and1 (pt_val (pe_callB (call_isP K hz_ hf_ List.mem_cons_self) (by rfl) T.n_isinstance (by decide +kernel) (pa_cons (pv 0) (pa_cons (pe_bltn (v := .ty "ValueError") rfl T.n_ValueError (by decide +kernel) rfl) pa_nil))))))) (pss_cons (ps_ret (pe_ix (ixL K) (pv 1) pe_int (fun _ _ => rfl))) pss_nil) pss_nil) (pss_cons (ps_ret pe_str) pss_nil)))))))))))), ?_⟩
    try dsimp only [L2H.cxH, cxOf, Cx.blk]
    refine Go.start (σ := [some (.ref a_), none]) ?_
    refine go_asgL (el_lst ea_nil (Nat.zero_le _)) fun pw hpw => ?_
    have h0 : (upd H pw (.lst [])) pw = some (.lst ((wordsTo x 0).map V.str)) := upd_same
    have e0 : Ex H (upd H pw (.lst [])) := Ex.new hpw
    generalize upd H pw (.lst []) = G0 at *
    refine go_cut (fun σ' G' => σ' = [some (.ref a_), some (.ref pw)] ∧ Ex H G' ∧ G' pw = some (.lst ((wordsTo x 1).map V.str))) (go_ifs (b := decide (x = .size)) (et_B (ev_isX (ev_var rfl) ev_c (T_e T x) (fun _ h => h) (T_j T x .size))) (fun h => ?_) (fun h => ?_)) ?_
    · have hx : x = .size := of_decide_eq_true h
      subst hx
      exact go_app (ev_var rfl) h0 ev_c (by decide) (go_kn ⟨rfl, Ex.mut e0 hpw, upd_same⟩)
    · have hx : ¬ x = .size := of_decide_eq_false h
      refine go_kn ⟨rfl, e0, ?_⟩
      have : wordsTo x 1 = wordsTo x 0 := by cases x <;> first | rfl | exact absurd rfl hx
      rw [this]; exact h0
    rintro σ1 G1 ⟨rfl, e1, h1⟩
    refine go_cut (fun σ' G' => σ' = [some (.ref a_), some (.ref pw)] ∧ Ex H G' ∧ G' pw = some (.lst ((wordsTo x 2).map V.str))) (go_ifs (b := decide (x = .kind)) (et_B (ev_isX (ev_var rfl) ev_c (T_e T x) (fun _ h => h) (T_j T x .kind))) (fun h => ?_) (fun h => ?_)) ?_
    · have hx : x = .kind := of_decide_eq_true h
      subst hx
      exact go_app (ev_var rfl) h1 ev_c (by decide) (go_kn ⟨rfl, Ex.mut e1 hpw, upd_same⟩)
    · have hx : ¬ x = .kind := of_decide_eq_false h
      refine go_kn ⟨rfl, e1, ?_⟩
      have : wordsTo x 2 = wordsTo x 1 := by cases x <;> first | rfl | exact absurd rfl hx
      rw [this]; exact h1
    rintro σ2 G2 ⟨rfl, e2, h2⟩
    refine go_cut (fun σ' G' => σ' = [some (.ref a_), some (.ref pw)] ∧ Ex H G' ∧ G' pw = some (.lst ((wordsTo x 3).map V.str))) (go_ifs (b := decide (x = .sources)) (et_B (ev_isX (ev_var rfl) ev_c (T_e T x) (fun _ h => h) (T_j T x .sources))) (fun h => ?_) (fun h => ?_)) ?_
    · have hx : x = .sources := of_decide_eq_true h
      subst hx
      exact go_app (ev_var rfl) h2 ev_c (by decide) (go_kn ⟨rfl, Ex.mut e2 hpw, upd_same⟩)
    · have hx : ¬ x = .sources := of_decide_eq_false h
      refine go_kn ⟨rfl, e2, ?_⟩
      have : wordsTo x 3 = wordsTo x 2 := by cases x <;> first | rfl | exact absurd rfl hx
      rw [this]; exact h2
    rintro σ3 G3 ⟨rfl, e3, h3⟩
    refine go_cut (fun σ' G' => σ' = [some (.ref a_), some (.ref pw)] ∧ Ex H G' ∧ G' pw = some (.lst ((wordsTo x 4).map V.str))) (go_ifs (b := decide (x = .line)) (et_B (ev_isX (ev_var rfl) ev_c (T_e T x) (fun _ h => h) (T_j T x .line))) (fun h => ?_) (fun h => ?_)) ?_
    · have hx : x = .line := of_decide_eq_true h
      subst hx
      exact go_app (ev_var rfl) h3 ev_c (by decide) (go_kn ⟨rfl, Ex.mut e3 hpw, upd_same⟩)
    · have hx : ¬ x = .line := of_decide_eq_false h
      refine go_kn ⟨rfl, e3, ?_⟩
      have : wordsTo x 4 = wordsTo x 3 := by cases x <;> first | rfl | exact absurd rfl hx
      rw [this]; exact h3
    rintro σ4 G4 ⟨rfl, e4, h4⟩
    refine go_cut (fun σ' G' => σ' = [some (.ref a_), some (.ref pw)] ∧ Ex H G' ∧ G' pw = some (.lst ((wordsTo x 5).map V.str))) (go_ifs (b := decide (x = .delay)) (et_B (ev_isX (ev_var rfl) ev_c (T_e T x) (fun _ h => h) (T_j T x .delay))) (fun h => ?_) (fun h => ?_)) ?_
    · have hx : x = .delay := of_decide_eq_true h
      subst hx
      exact go_app (ev_var rfl) h4 ev_c (by decide) (go_kn ⟨rfl, Ex.mut e4 hpw, upd_same⟩)
    · have hx : ¬ x = .delay := of_decide_eq_false h
      refine go_kn ⟨rfl, e4, ?_⟩
      have : wordsTo x 5 = wordsTo x 4 := by cases x <;> first | rfl | exact absurd rfl hx
      rw [this]; exact h4
    rintro σ5 G5 ⟨rfl, e5, h5⟩
    refine go_cut (fun σ' G' => σ' = [some (.ref a_), some (.ref pw)] ∧ Ex H G' ∧ G' pw = some (.lst ((wordsTo x 6).map V.str))) (go_ifs (b := decide (x = .values)) (et_B (ev_isX (ev_var rfl) ev_c (T_e T x) (fun _ h => h) (T_j T x .values))) (fun h => ?_) (fun h => ?_)) ?_
    · have hx : x = .values := of_decide_eq_true h
      subst hx
      exact go_app (ev_var rfl) h5 ev_c (by decide) (go_kn ⟨rfl, Ex.mut e5 hpw, upd_same⟩)
    · have hx : ¬ x = .values := of_decide_eq_false h
      refine go_kn ⟨rfl, e5, ?_⟩
      have : wordsTo x 6 = wordsTo x 5 := by cases x <;> first | rfl | exact absurd rfl hx
      rw [this]; exact h5
    rintro σ6 G6 ⟨rfl, e6, h6⟩
    refine go_cut (fun σ' G' => σ' = [some (.ref a_), some (.ref pw)] ∧ Ex H G' ∧ G' pw = some (.lst ((wordsTo x 7).map V.str))) (go_ifs (b := decide (x = .ringed)) (et_B (ev_isX (ev_var rfl) ev_c (T_e T x) (fun _ h => h) (T_j T x .ringed))) (fun h => ?_) (fun h => ?_)) ?_
    · have hx : x = .ringed := of_decide_eq_true h
      subst hx
      exact go_app (ev_var rfl) h6 ev_c (by decide) (go_kn ⟨rfl, Ex.mut e6 hpw, upd_same⟩)
    · have hx : ¬ x = .ringed := of_decide_eq_false h
      refine go_kn ⟨rfl, e6, ?_⟩
      have : wordsTo x 7 = wordsTo x 6 := by cases x <;> first | rfl | exact absurd rfl hx
      rw [this]; exact h6
    rintro σ7 G7 ⟨rfl, e7, h7⟩
    refine go_cut (fun σ' G' => σ' = [some (.ref a_), some (.ref pw)] ∧ Ex H G' ∧ G' pw = some (.lst ((wordsTo x 8).map V.str))) (go_ifs (b := decide (x = .deed)) (et_B (ev_isX (ev_var rfl) ev_c (T_e T x) (fun _ h => h) (T_j T x .deed))) (fun h => ?_) (fun h => ?_)) ?_
    · have hx : x = .deed := of_decide_eq_true h
      subst hx
      exact go_app (ev_var rfl) h7 ev_c (by decide) (go_kn ⟨rfl, Ex.mut e7 hpw, upd_same⟩)
    · have hx : ¬ x = .deed := of_decide_eq_false h
      refine go_kn ⟨rfl, e7, ?_⟩
      have : wordsTo x 8 = wordsTo x 7 := by cases x <;> first | rfl | exact absurd rfl hx
      rw [this]; exact h7
    rintro σ8 G8 ⟨rfl, e8, h8⟩
    refine go_cut (fun σ' G' => σ' = [some (.ref a_), some (.ref pw)] ∧ Ex H G' ∧ G' pw = some (.lst ((wordsTo x 9).map V.str))) (go_ifs (b := decide (x = .text)) (et_B (ev_isX (ev_var rfl) ev_c (T_e T x) (fun _ h => h) (T_j T x .text))) (fun h => ?_) (fun h => ?_)) ?_
    · have hx : x = .text := of_decide_eq_true h
      subst hx
      exact go_app (ev_var rfl) h8 ev_c (by decide) (go_kn ⟨rfl, Ex.mut e8 hpw, upd_same⟩)
    · have hx : ¬ x = .text := of_decide_eq_false h
      refine go_kn ⟨rfl, e8, ?_⟩
      have : wordsTo x 9 = wordsTo x 8 := by cases x <;> first | rfl | exact absurd rfl hx
      rw [this]; exact h8
    rintro σ9 G9 ⟨rfl, e9, h9⟩
    have hw : (wordsTo x 9).map V.str = [V.str (errWord x)] := by cases x <;> rfl
    rw [hw] at h9
    have hs : SqL K G9 pw [V.str (errWord x)] := sq_of h9
    refine go_when (b := decide ((([V.str (errWord x)] : List V).length : Int) = 1) && true) (et_and (et_test (ev_op (ev_len (ev_var rfl) hs) ev_c rv_eqI)) fun _ => et_B (ev_isX (ev_var rfl) ev_c (T_e T x) (fun _ h => h) (T_v T x))) (fun _ => ?_) (fun h => by cases h)
    exact go_ret (v := .str (errWord x)) (ev_op (ev_var rfl) ev_c (rv_ixL hs rfl)) fun H1 e1 => q H1 (e9.trans e1)

end

section
variable {P : Program} {w : World} {K : PySem.W.Frag} {mg : Str → Option Value} {base : Heap} {A : Ads}
def sp_l_refused (K : PySem.W.Frag) (A : Ads) : Sp := fun vs H Q E => ∃ z e, vs = [.str z, .str (errWord e)] ∧ z.length ≤ 30000 ∧ readR z = .error e ∧ RetV (.bl true) H Q
theorem sv_refused {K : PySem.W.Frag} {A : Ads} {G : Hp} {z : Str} {e : Err} (h : z.length ≤ 30000) (hr : readR z = .error e) : SpV (sp_l_refused K A) [.str z, .str (errWord e)] G (.bl true) := fun _ _ _ q _ => ⟨z, e, rfl, h, hr, q⟩
theorem ok_l_refused {f : Addr} {fd : FuncData} (F : Fun K "_law_refused" "_law_refused" s_l_refused f fd) (T : Txt K w mg A) (c_read : CalX P w K mg base 4 "read" (sp_read K A)) (c_l_class : CalE P w K mg base 1 "_law_class" (sp_l_class K A)) : FnOk P w K mg base (L2.CX P w) 5 f fd ["_law_told", "_law_due_here"] (sp_l_refused K A) := by
  refine F.okX sc_l_refused (fun vs H Q E h => ?_) (fun cdv A_ outer s H vs Q E hr h => ?_)
  · obtain ⟨z, e, rfl, _⟩ := h; rfl
  · obtain ⟨z, e, rfl, hz, hre, q⟩ := h
    refine ⟨_, (pss_cons (ps_try_as (i := 2) rfl rfl sc_l_refused.nd rfl rfl ⟨rfl, by decide, .inl T.g_SignalError⟩ (takes_of rfl rfl rfl rfl) (fun W_ pn_ xq_ tk_ xe_ => (pss_cons (ps_expr (pe_cx c_read hr (by decide) rfl tk_ (pa_cons (pv 0) pa_nil))) pss_nil)) (fun a_ oe_ cls_ d_ pn_ hz_ hf_ => (pss_cons (ps_ret (pe_cmpR op_eq (pe_ce c_l_class (roomH_mark hr) (by decide) List.mem_cons_self hz_ hf_ rfl takes0 (pa_cons (pv 2) pa_nil)) (pv 1) (nomark _))) pss_nil))) (pss_cons (ps_ret pe_bl) pss_nil)), ?_⟩
    try dsimp only [cxOf, Cx.blk]
    refine Go.start (σ := [some (.str z), some (.str (errWord e)), none]) ?_
    walk_at "try"
    refine go_dropF (ef_call (vs := [.str z]) (ea_cons (ev_var rfl) ea_nil) fun H1 e1 Q1 => ⟨z, rfl, hz, out_err (x := e) hre fun H2 e2 => ?_⟩)
    refine wa_hit (T_m T e) (e1.trans e2) fun a ha => ?_
    exact go_ret (v := .bl true) (ev_is (ev_op (ev_callS (ea_cons (ev_var rfl) ea_nil) sv_class) (ev_var rfl) rv_eqS) (by rw [decide_eq_true rfl])) fun H1 e1 => q H1 e1

end

section
variable {P : Program} {w : World} {K : PySem.W.Frag} {mg : Str → Option Value} {base : Heap} {A : Ads}
def sp_l_odd_row (K : PySem.W.Frag) (A : Ads) : Sp := fun vs H Q E => ∃ c : Int, vs = [.int c] ∧ RetV (.str (oddRows.getD (c % 36).toNat "")) H Q
theorem sv_odd_row {K : PySem.W.Frag} {A : Ads} {G : Hp} {c : Int} : SpV (sp_l_odd_row K A) [.int c] G (.str (oddRows.getD (c % 36).toNat "")) := fun _ _ _ q _ => ⟨c, rfl, q⟩
theorem ok_l_odd_row {f : Addr} {fd : FuncData} (F : Fun K "_law_odd_row" "_law_odd_row" s_l_odd_row f fd) (T : Txt K w mg A)  : FnOk P w K mg base (L2.CX P w) 1 f fd ["_law_cell"] (sp_l_odd_row K A) := by
  refine F.okX sc_l_odd_row (fun vs H Q E h => ?_) (fun cdv A_ outer s H vs Q E hr h => ?_)
  · obtain ⟨c, rfl, _⟩ := h; rfl
  · obtain ⟨c, rfl, q⟩ := h
    refine ⟨_, (pss_cons (ps_set (i := 1) sc_l_odd_row.nd rfl (.inl rfl) (pe_lst (pa_cons pe_str (pa_cons pe_str (pa_cons pe_str (pa_cons pe_str (pa_cons pe_str (pa_cons pe_str (pa_cons pe_str (pa_cons pe_str (pa_cons pe_str (pa_cons pe_str pa_nil)))))))))))) (pss_cons (ps_set (i := 1) sc_l_odd_row.nd rfl (.inl rfl) (pe_op op_cat (pv 1) (pe_lst (pa_cons pe_str (pa_cons pe_str (pa_cons pe_str (pa_cons pe_str (pa_cons pe_str (pa_cons pe_str pa_nil))))))))) (pss_cons (ps_set (i := 1) sc_l_odd_row.nd rfl (.inl rfl) (pe_op op_cat (pv 1) (pe_lst (pa_cons pe_str (pa_cons pe_str (pa_cons pe_str (pa_cons pe_str (pa_cons pe_str (pa_cons pe_str pa_nil))))))))) (pss_cons (ps_set (i := 1) sc_l_odd_row.nd rfl (.inl rfl) (pe_op op_cat (pv 1) (pe_lst (pa_cons pe_str (pa_cons pe_str (pa_cons pe_str (pa_cons pe_str (pa_cons pe_str (pa_cons pe_str (pa_cons pe_str pa_nil)))))))))) (pss_cons (ps_set (i := 1) sc_l_odd_row.nd rfl (.inl rfl) (pe_op op_cat (pv 1) (pe_lst (pa_cons pe_str (pa_cons pe_str (pa_cons pe_str (pa_cons pe_str (pa_cons pe_str (pa_cons pe_str (pa_cons pe_str pa_nil)))))))))) (pss_cons (ps_ret (pe_ix (ixL K) (pv 1) (pe_op op_mod (pv 0) pe_int) (fun _ _ => rfl))) pss_nil)))))), ?_⟩
    try dsimp only [cxOf, Cx.blk]
    refine Go.start (σ := [some (.int c), none]) ?_
    have c0 : 0 ≤ c % 36 ∧ c % 36 < 36 := by omega
    refine go_asgL (xs := oddRows0.map V.str) (el_lst (by unfold oddRows0; dsimp only [List.map]; walk_at "ea") (by show oddRows0.length ≤ 100000; decide)) fun p0 hp0 => ?_
    have e0 : Ex H (upd H p0 (.lst (oddRows0.map V.str))) := Ex.new hp0
    have h0 : (upd H p0 (.lst (oddRows0.map V.str))) p0 = some (.lst (oddRows0.map V.str)) := upd_same
    generalize upd H p0 (.lst (oddRows0.map V.str)) = G0 at e0 h0
    refine go_asgL (xs := oddRows0.map V.str ++ oddRows1.map V.str) (el_catV (ys := oddRows1.map V.str) (ev_var rfl) h0 (el_lst (by unfold oddRows1; dsimp only [List.map]; walk_at "ea") (by show oddRows1.length ≤ 100000; decide)) (by decide)) fun p1 hp1 => ?_
    have e1 : Ex H (upd G0 p1 (.lst (oddRows0.map V.str ++ oddRows1.map V.str))) := e0.trans (Ex.new hp1)
    have h1 : (upd G0 p1 (.lst (oddRows0.map V.str ++ oddRows1.map V.str))) p1 = some (.lst (oddRows0.map V.str ++ oddRows1.map V.str)) := upd_same
    generalize upd G0 p1 (.lst (oddRows0.map V.str ++ oddRows1.map V.str)) = G1 at e1 h1
    refine go_asgL (xs := oddRows0.map V.str ++ oddRows1.map V.str ++ oddRows2.map V.str) (el_catV (ys := oddRows2.map V.str) (ev_var rfl) h1 (el_lst (by unfold oddRows2; dsimp only [List.map]; walk_at "ea") (by show oddRows2.length ≤ 100000; decide)) (by decide)) fun p2 hp2 => ?_
    have e2 : Ex H (upd G1 p2 (.lst (oddRows0.map V.str ++ oddRows1.map V.str ++ oddRows2.map V.str))) := e1.trans (Ex.new hp2)
    have h2 : (upd G1 p2 (.lst (oddRows0.map V.str ++ oddRows1.map V.str ++ oddRows2.map V.str))) p2 = some (.lst (oddRows0.map V.str ++ oddRows1.map V.str ++ oddRows2.map V.str)) := upd_same
    generalize upd G1 p2 (.lst (oddRows0.map V.str ++ oddRows1.map V.str ++ oddRows2.map V.str)) = G2 at e2 h2
    refine go_asgL (xs := oddRows0.map V.str ++ oddRows1.map V.str ++ oddRows2.map V.str ++ oddRows3.map V.str) (el_catV (ys := oddRows3.map V.str) (ev_var rfl) h2 (el_lst (by unfold oddRows3; dsimp only [List.map]; walk_at "ea") (by show oddRows3.length ≤ 100000; decide)) (by decide)) fun p3 hp3 => ?_
    have e3 : Ex H (upd G2 p3 (.lst (oddRows0.map V.str ++ oddRows1.map V.str ++ oddRows2.map V.str ++ oddRows3.map V.str))) := e2.trans (Ex.new hp3)
    have h3 : (upd G2 p3 (.lst (oddRows0.map V.str ++ oddRows1.map V.str ++ oddRows2.map V.str ++ oddRows3.map V.str))) p3 = some (.lst (oddRows0.map V.str ++ oddRows1.map V.str ++ oddRows2.map V.str ++ oddRows3.map V.str)) := upd_same
    generalize upd G2 p3 (.lst (oddRows0.map V.str ++ oddRows1.map V.str ++ oddRows2.map V.str ++ oddRows3.map V.str)) = G3 at e3 h3
    refine go_asgL (xs := oddRows0.map V.str ++ oddRows1.map V.str ++ oddRows2.map V.str ++ oddRows3.map V.str ++ oddRows4.map V.str) (el_catV (ys := oddRows4.map V.str) (ev_var rfl) h3 (el_lst (by unfold oddRows4; dsimp only [List.map]; walk_at "ea") (by show oddRows4.length ≤ 100000; decide)) (by decide)) fun p4 hp4 => ?_
    have e4 : Ex H (upd G3 p4 (.lst (oddRows0.map V.str ++ oddRows1.map V.str ++ oddRows2.map V.str ++ oddRows3.map V.str ++ oddRows4.map V.str))) := e3.trans (Ex.new hp4)
    have h4 : (upd G3 p4 (.lst (oddRows0.map V.str ++ oddRows1.map V.str ++ oddRows2.map V.str ++ oddRows3.map V.str ++ oddRows4.map V.str))) p4 = some (.lst (oddRows0.map V.str ++ oddRows1.map V.str ++ oddRows2.map V.str ++ oddRows3.map V.str ++ oddRows4.map V.str)) := upd_same
    generalize upd G3 p4 (.lst (oddRows0.map V.str ++ oddRows1.map V.str ++ oddRows2.map V.str ++ oddRows3.map V.str ++ oddRows4.map V.str)) = G4 at e4 h4
    have hx : oddRows0.map V.str ++ oddRows1.map V.str ++ oddRows2.map V.str ++ oddRows3.map V.str ++ oddRows4.map V.str = oddRows.map V.str := by unfold oddRows; simp only [List.map_append]
    rw [hx] at h4
    exact go_ret (ev_op (ev_var rfl) (ev_op (ev_var rfl) ev_c (rv_I (by decide))) (rv_ixL (sq_of h4) (at_map V.str oddRows "" c0.1 (by show c % 36 < 36; exact c0.2)))) fun H1 e => q H1 (e4.trans e)

end

section
variable {P : Program} {w : World} {K : PySem.W.Frag} {mg : Str → Option Value} {base : Heap} {A : Ads}
def sp_l_wrong_row (K : PySem.W.Frag) (A : Ads) : Sp := fun vs H Q E => ∃ c : Int, vs = [.int c] ∧ ∀ v H', Ex H H' → PairS K H' v (wrongRows.getD (c % 8).toNat ("", "")) → Q v H'
theorem sg_wrong_row {K : PySem.W.Frag} {A : Ads} {G : Hp} {c : Int} : SpG (sp_l_wrong_row K A) [.int c] G fun v G' => PairS K G' v (wrongRows.getD (c % 8).toNat ("", "")) := fun H e Q E q => ⟨c, rfl, fun v H' e' p => q v H' H' (e.trans e') (Ex.refl _) e' p⟩
theorem ok_l_wrong_row {f : Addr} {fd : FuncData} (F : Fun K "_law_wrong_row" "_law_wrong_row" s_l_wrong_row f fd) (T : Txt K w mg A)  : FnOk P w K mg base (L2.CX P w) 1 f fd ["_law_cell"] (sp_l_wrong_row K A) := by
  refine F.okX sc_l_wrong_row (fun vs H Q E h => ?_) (fun cdv A_ outer s H vs Q E hr h => ?_)
  · obtain ⟨c, rfl, _⟩ := h; rfl
  · obtain ⟨c, rfl, q⟩ := h
    refine ⟨_, (pss_cons (ps_set (i := 1) sc_l_wrong_row.nd rfl (.inl rfl) (pe_lst (pa_cons (pe_tup (pa_cons pe_str (pa_cons pe_str pa_nil))) (pa_cons (pe_tup (pa_cons pe_str (pa_cons pe_str pa_nil))) (pa_cons (pe_tup (pa_cons pe_str (pa_cons pe_str pa_nil))) (pa_cons (pe_tup (pa_cons pe_str (pa_cons pe_str pa_nil))) pa_nil)))))) (pss_cons (ps_set (i := 1) sc_l_wrong_row.nd rfl (.inl rfl) (pe_op op_cat (pv 1) (pe_lst (pa_cons (pe_tup (pa_cons pe_str (pa_cons pe_str pa_nil))) (pa_cons (pe_tup (pa_cons pe_str (pa_cons pe_str pa_nil))) (pa_cons (pe_tup (pa_cons pe_str (pa_cons pe_str pa_nil))) pa_nil)))))) (pss_cons (ps_set (i := 1) sc_l_wrong_row.nd rfl (.inl rfl) (pe_op op_cat (pv 1) (pe_lst (pa_cons (pe_tup (pa_cons pe_str (pa_cons pe_str pa_nil))) pa_nil)))) (pss_cons (ps_ret (pe_ix (ixL K) (pv 1) (pe_op op_mod (pv 0) pe_int) (fun _ _ => rfl))) pss_nil)))), ?_⟩
    try dsimp only [cxOf, Cx.blk]
    refine Go.start (σ := [some (.int c), none]) ?_
    have c0 : 0 ≤ c % 8 ∧ c % 8 < 8 := by omega
    refine go_asgP (epw_lst (K := K) (ps := [("and by 1", "kind"), ("by by 1", "kind"), ("keep by 1", "sources"), ("yes 0 by 1", "sources")]) (eaw_cons fun _ _ => eaw_cons fun _ _ => eaw_cons fun _ _ => eaw_cons fun _ _ => eaw_nil) (by show 4 ≤ 1000; decide)) fun v G1 e1 hv => ?_
    obtain ⟨p1, w1, rfl, h1, hR1⟩ := hv
    refine go_asgP (epw_cat (qs := [("keep 999999999 by 1", "line"), ("yes by 0", "delay"), ("no by 61", "delay")]) (ev_var rfl) h1 hR1 (epw_lst (eaw_cons fun _ _ => eaw_cons fun _ _ => eaw_cons fun _ _ => eaw_nil) (by show 3 ≤ 1000; decide)) (by show 4 + 3 ≤ 1000; decide)) fun v G2 e2 hv => ?_
    obtain ⟨p2, w2, rfl, h2, hR2⟩ := hv
    refine go_asgP (epw_cat (qs := [("in by 999999999", "kind")]) (ev_var rfl) h2 hR2 (epw_lst (eaw_cons fun _ _ => eaw_nil) (by show 1 ≤ 1000; decide)) (by show 7 + 1 ≤ 1000; decide)) fun v G3 e3 hv => ?_
    obtain ⟨p3, w3, rfl, h3, hR3⟩ := hv
    have hR3 : Rows (PairS K G3) w3 wrongRows := hR3
    obtain ⟨k, hk⟩ : ∃ k : Nat, c % 8 = (k : Int) := ⟨(c % 8).toNat, by omega⟩
    have hkl : k < wrongRows.length := by show k < 8; omega
    obtain ⟨w, hw, hp⟩ := rows_get hR3 (i := k) (List.getElem?_eq_getElem hkl)
    have hi : Ev (tOp (rI (fun _ j => 0 < j) fun i j => .int (i % j)) (tVar 0) (tC (.int 8))) [some (.int c), some (.ref p3)] G3 (.int (k : Int)) := by
      rw [← hk]; exact ev_op (ev_var rfl) ev_c (rv_I (by decide))
    refine go_ret (ev_op (ev_var rfl) hi (rv_ixL (sq_of h3) (at_list hw))) fun H1 e4 => q _ H1 (((e1.trans e2).trans e3).trans e4) ?_
    have e : wrongRows.getD (c % 8).toNat ("", "") = wrongRows[k] := by
      rw [hk, Int.toNat_natCast, List.getD_eq_getElem?_getD, List.getElem?_eq_getElem hkl]; rfl
    rw [e]
    exact hp.mono e4

end

section
variable {P : Program} {w : World} {K : PySem.W.Frag} {mg : Str → Option Value} {base : Heap} {A : Ads}
def figV (z : Str) : Int := (numM z).getD (-1)
theorem figV_neg {z : Str} : figV z < 0 ↔ numM z = none := by
  unfold figV
  cases h : numM z with
  | none => simp
  | some n => have := numM_nn h; simp; omega
theorem figV_m1 {z : Str} : figV z = -1 ↔ numM z = none := by
  unfold figV
  cases h : numM z with
  | none => simp
  | some n => have := numM_nn h; simp; omega
def sp_l_figures (K : PySem.W.Frag) (A : Ads) : Sp := fun vs H Q E => ∃ z, vs = [.str z] ∧ z.length ≤ 30000 ∧ RetV (.int (figV z)) H Q
theorem sv_figures {K : PySem.W.Frag} {A : Ads} {G : Hp} {z : Str} (h : z.length ≤ 30000) : SpV (sp_l_figures K A) [.str z] G (.int (figV z)) := fun _ _ _ q _ => ⟨z, rfl, h, q⟩
theorem ok_l_figures {f : Addr} {fd : FuncData} (F : Fun K "_law_figures" "_law_figures" s_l_figures f fd) (T : Txt K w mg A)  : FnOk P w K mg base (L2.CX P w) 1 f fd ["_law_word"] (sp_l_figures K A) := by
  refine F.okX sc_l_figures (fun vs H Q E h => ?_) (fun cdv A_ outer s H vs Q E hr h => ?_)
  · obtain ⟨z, rfl, _⟩ := h; rfl
  · obtain ⟨z, rfl, hz, q⟩ := h
    refine ⟨_, (pss_cons (ps_if (PW.pt (pw_or (pt_cmpR op_eq (pv 0) pe_str (nomark _)) (pw_or (pt_cmpR op_gt (pe_callB call_lenZ (by rfl) T.n_len PySem.boot_len (pa_cons (pv 0) pa_nil)) pe_int (nomark _)) (pw_or1 (PW.pt (pw_and (pt_cmpR op_gt (pe_callB call_lenZ (by rfl) T.n_len PySem.boot_len (pa_cons (pv 0) pa_nil)) pe_int (nomark _)) (pw_and1 (pt_cmpR op_eq (pe_ix ix_str (pv 0) pe_int (fun _ _ => rfl)) pe_str (nomark _))))))))) (pss_cons (ps_ret (pe_un un_neg pe_int)) pss_nil) pss_nil) (pss_cons (ps_if (pt_not (pt_val (pe_callB (c_all K rfl) (by rfl) T.n_all (by decide +kernel) (pa_cons (pe_lc (own := [("_law_sign", 1)]) (g := gName 1) (tt := tYes) rfl sc_l_figures.nd (pi_str (pv 0)) (blkOk_by (own := [("_law_sign", 1)]) (N := ["_law_word", "_law_sign"]) (sc := defScope s_l_figures) (by decide +kernel)) (fun _ _ _ _ _ => pg_name (i := 1) sc_l_figures.nd rfl (Or.inl rfl)) (fun _ _ _ _ _ => pts_nil) (fun _ _ _ _ _ => (pe_cmpR op_inS (pv 1) pe_str rfl))) pa_nil)))) (pss_cons (ps_ret (pe_un un_neg pe_int)) pss_nil) pss_nil) (pss_cons (ps_ret (pe_callTy call_intZ (by rfl) T.n_int (by decide +kernel) (pa_cons (pv 0) pa_nil))) pss_nil))), ?_⟩
    try dsimp only [cxOf, Cx.blk]
    refine Go.start (σ := [some (.str z), none]) ?_
    have bad : numM z = none → ∀ H1, Ex H H1 → Q (.int (-1)) H1 := fun h H1 e => by
      have := q H1 e
      unfold figV at this
      rw [h] at this
      exact this
    have hlen : ∀ {σ : L2.St} {G : Hp}, σ[0]? = some (some (.str z)) → Ev (tCB rLenZ (tCons (tVar 0) tNil)) σ G (.int (z.length : Int)) := fun hσ => ev_lenZ (ev_var hσ) (by omega)
    by_cases hz0 : z = ""
    · refine go_when (b := true) (et_is (et_or (a := true) (b := true) (et_is (et_test (ev_op (ev_var rfl) ev_c rv_eqS)) (decide_eq_true hz0)) fun h => by cases h) rfl) (fun _ => ?_) (fun h => by cases h)
      exact go_ret (ev_un ev_c ru_neg) fun H1 e1 => bad (numM_none fun q => q.2.1 hz0) H1 e1
    have hne : z.cps.toList ≠ [] := fun h => hz0 (str_empty.mpr h)
    obtain ⟨c0, r0, hcr⟩ := List.exists_cons_of_ne_nil hne
    have hone : (⟨#[c0]⟩ : Str) = "0" ↔ c0 = 48 := by
      constructor
      · intro h
        have : (⟨#[c0]⟩ : Str).cps.toList = ("0" : Str).cps.toList := by rw [h]
        have e0 : ("0" : Str).cps.toList = [48] := by decide +kernel
        rw [e0] at this
        simpa using this
      · rintro rfl
        exact TL.ext_tl (by show [48] = ("0" : Str).cps.toList; decide +kernel)
    refine go_when (b := false || (decide (9 < (z.length : Int)) || (decide (1 < (z.length : Int)) && decide ((⟨#[c0]⟩ : Str) = "0"))))
      (et_or (et_is (et_test (ev_op (ev_var rfl) ev_c rv_eqS)) (decide_eq_false hz0)) fun _ => et_or (et_test (ev_op (hlen rfl) ev_c rv_I0)) fun _ => et_and (et_test (ev_op (hlen rfl) ev_c rv_I0)) fun _ => et_test (ev_op (ev_op (ev_var rfl) ev_c (rv_ixS (by omega) (show atI z.cps.toList ((0 : Nat) : Int) = some c0 from atI_nat (by rw [hcr]; rfl)))) ev_c rv_eqS)) (fun h => ?_) (fun h => ?_)
    · refine go_ret (ev_un ev_c ru_neg) fun H1 e1 => bad (numM_none fun q => ?_) H1 e1
      obtain ⟨_, _, q1, q2⟩ := q
      simp only [Bool.false_or, Bool.or_eq_true, Bool.and_eq_true, decide_eq_true_eq] at h
      rcases h with h | ⟨h3, h⟩
      · omega
      · exact q2 ⟨by rw [hcr]; simp [hone.mp h], by omega⟩
    have hc : z.length ≤ 9 ∧ ¬ (z.cps.toList.head? = some 48 ∧ 1 < z.length) := by
      simp only [Bool.false_or, Bool.or_eq_false_iff, Bool.and_eq_false_iff, decide_eq_false_iff_not] at h
      refine ⟨by omega, fun ⟨q1, q2⟩ => ?_⟩
      rw [hcr] at q1
      have : c0 = 48 := by simpa using q1
      rcases h.2 with h2 | h2
      · omega
      · exact h2 (hone.mpr this)
    have el := el_lcS (te := tOp rInS (tVar 1) (tC (.str "0123456789"))) (tl := tVar 0) (σ := [some (.str z), none]) (G := H) (j := 1) (vs := [1]) (x := z) (fun c => .bl (decide (c ∈ figs))) (ev_var rfl) (by have := TL.len_tl z; unfold TL.tl at this; simp at this; omega) (fun _ => rfl) (fun c => ev_op (ev_var rfl) ev_c rv_inS)
    have hmp : (z.cps.toList.map fun c => V.bl (decide (c ∈ figs))) = (z.cps.toList.map fun c => decide (c ∈ figs)).map V.bl := by rw [List.map_map]; rfl
    rw [hmp] at el
    have hall : (z.cps.toList.map fun c => decide (c ∈ figs)).all id = allIn figs z := by
      unfold allIn
      rw [List.all_map]; rfl
    refine go_when (et_not (et_B (ev_allN el))) (fun h => ?_) (fun h => ?_)
    · rw [hall] at h
      refine go_ret (ev_un ev_c ru_neg) fun H1 e1 => bad (numM_none fun q => ?_) H1 e1
      rw [q.1] at h; cases h
    · rw [hall] at h
      have hal : allIn figs z = true := by cases e : allIn figs z; rw [e] at h; cases h; rfl
      obtain ⟨n, hn⟩ := num_int hal hz0 hc.1
      have hm : numM z = some (n : Int) := by unfold numM; rw [if_pos ⟨hal, hz0, hc.1, hc.2⟩]; exact hn
      refine go_ret (v := .int (n : Int)) (ev_intZ (ev_var rfl) hn (by have := hc.1; omega)) fun H1 e1 => ?_
      have := q H1 e1
      unfold figV at this
      rw [hm] at this
      exact this

end

section
variable {P : Program} {w : World} {K : PySem.W.Frag} {mg : Str → Option Value} {base : Heap} {A : Ads}
def sp_l_gate_of (K : PySem.W.Frag) (A : Ads) : Sp := fun vs H Q E => ∃ z, vs = [.str z] ∧ z.length ≤ 30000 ∧ ∀ v H', Ex H H' → GOpt K H' v (gateM z) → Q v H'
theorem sg_l_gate_of {K : PySem.W.Frag} {A : Ads} {G : Hp} {z : Str} (h : z.length ≤ 30000) : SpG (sp_l_gate_of K A) [.str z] G fun v G' => GOpt K G' v (gateM z) := fun H e Q E q => ⟨z, rfl, h, fun v H' e' p => q v H' H' (e.trans e') (Ex.refl _) e' p⟩
theorem ok_l_gate_of {f : Addr} {fd : FuncData} (F : Fun K "_law_gate_of" "_law_gate_of" s_l_gate_of f fd) (T : Txt K w mg A) (c_l_figures : CalX P w K mg base 1 "_law_figures" (sp_l_figures K A)) : FnOk P w K mg base (L2.CX P w) 2 f fd ["_law_row"] (sp_l_gate_of K A) := by
  refine F.okX sc_l_gate_of (fun vs H Q E h => ?_) (fun cdv A_ outer s H vs Q E hr h => ?_)
  · obtain ⟨z, rfl, _⟩ := h; rfl
  · obtain ⟨z, rfl, hz, q⟩ := h
    refine ⟨_, (pss_cons (ps_set (i := 1) sc_l_gate_of.nd rfl (.inl rfl) (pe_splitN (pv 0) pe_str)) (pss_cons (ps_if (PW.pt (pw_or (pt_cmpR op_lt (pe_callB (c_len K) (by rfl) T.n_len PySem.boot_len (pa_cons (pv 1) pa_nil)) pe_int (nomark _)) (pw_or (pt_cmpR op_ne (pe_ix (ixL K) (pv 1) (pe_op op_sub (pe_callB (c_len K) (by rfl) T.n_len PySem.boot_len (pa_cons (pv 1) pa_nil)) pe_int) (fun _ _ => rfl)) pe_str (nomark _)) (pw_or1 (pt_cmpR op_eq (pe_ix (ixL K) (pv 1) pe_int (fun _ _ => rfl)) pe_str (nomark _)))))) (pss_cons (ps_ret pe_non) pss_nil) pss_nil) (pss_cons (ps_if (pt_not (pt_val (pe_callB (c_all K rfl) (by rfl) T.n_all (by decide +kernel) (pa_cons (pe_lc (own := [("_law_sign", 4)]) (g := gName 4) (tt := tYes) rfl sc_l_gate_of.nd (pi_str (pe_ix (ixL K) (pv 1) pe_int (fun _ _ => rfl))) (blkOk_by (own := [("_law_sign", 4)]) (N := ["_law_row", "_law_words", "_law_sources", "_law_word", "_law_sign"]) (sc := defScope s_l_gate_of) (by decide +kernel)) (fun _ _ _ _ _ => pg_name (i := 4) sc_l_gate_of.nd rfl (Or.inl rfl)) (fun _ _ _ _ _ => pts_nil) (fun _ _ _ _ _ => (pe_cmpR op_inS (pv 4) pe_str rfl))) pa_nil)))) (pss_cons (ps_ret pe_non) pss_nil) pss_nil) (pss_cons (ps_setLc (i := 2) (own := [("_law_word", 3)]) (g := gName 3) (tt := tYes) rfl sc_l_gate_of.nd rfl rfl (sw_true rfl rfl rfl (by decide +kernel)) (pi_L K (pe_slice (slL K) (pv 1) (po_some pe_int) (po_some (pe_op op_sub (pe_callB (c_len K) (by rfl) T.n_len PySem.boot_len (pa_cons (pv 1) pa_nil)) pe_int)))) (blkOk_by (own := [("_law_word", 3)]) (N := ["_law_row", "_law_words", "_law_sources", "_law_word", "_law_sign"]) (sc := defScope s_l_gate_of) (by decide +kernel)) (fun _ _ _ _ _ => pg_name (i := 3) sc_l_gate_of.nd rfl (Or.inl rfl)) (fun _ _ _ _ _ => pts_nil) (fun _ _ _ _ _ => (pe_cx c_l_figures hr (by decide) rfl takes0 (pa_cons (pv 3) pa_nil)))) (pss_cons (ps_if (PW.pt (pw_or (pt_cmpR (o_in K) (pe_un un_neg pe_int) (pv 2) rfl) (pw_or1 (pt_cmpR op_lt (pe_cx c_l_figures hr (by decide) rfl (takes_of rfl rfl rfl rfl) (pa_cons (pe_ix (ixL K) (pv 1) (pe_op op_sub (pe_callB (c_len K) (by rfl) T.n_len PySem.boot_len (pa_cons (pv 1) pa_nil)) pe_int) (fun _ _ => rfl)) pa_nil)) pe_int (nomark _))))) (pss_cons (ps_ret pe_non) pss_nil) pss_nil) (pss_cons (ps_ret (pe_tup (pa_cons (pe_ix (ixL K) (pv 1) pe_int (fun _ _ => rfl)) (pa_cons (pe_callTy (c_tup K) (by rfl) T.n_tuple (by decide +kernel) (pa_cons (pv 2) pa_nil)) (pa_cons (pe_cx c_l_figures hr (by decide) rfl (takes_of rfl rfl rfl rfl) (pa_cons (pe_ix (ixL K) (pv 1) (pe_op op_sub (pe_callB (c_len K) (by rfl) T.n_len PySem.boot_len (pa_cons (pv 1) pa_nil)) pe_int) (fun _ _ => rfl)) pa_nil)) pa_nil))))) pss_nil)))))), ?_⟩
    try dsimp only [cxOf, Cx.blk]
    refine Go.start (σ := [some (.str z), none, none, none, none]) ?_
    have bad : gateM z = none → ∀ H1, Ex H H1 → Q .non H1 := fun h H1 e => q _ H1 e (by rw [h]; rfl)
    refine go_asgL (el_split (b := " ") (ev_var rfl) ev_c (by decide +kernel) (by omega)) fun pw hpw => ?_
    have hwl : ∀ t ∈ Txt.split z " ", t.length ≤ 30000 := fun t ht => by have := word_len ht; omega
    have hmany := split_many z " "
    have hgm : gateM z = gateL (Txt.split z " ") := rfl
    generalize Txt.split z " " = ws at *
    have e1 : Ex H (upd H pw (.lst (ws.map V.str))) := Ex.new hpw
    have hW1 : SqL K (upd H pw (.lst (ws.map V.str))) pw (ws.map V.str) := sq_of upd_same
    generalize upd H pw (.lst (ws.map V.str)) = G1 at *
    have hlen : ∀ {σ : L2.St} {G : Hp}, σ[1]? = some (some (.ref pw)) → Ex G1 G → Ev (tCB (rLenS K) (tCons (tVar 1) tNil)) σ G (.int (ws.length : Int)) := fun hσ e => by
      have q := ev_len (K := K) (ev_var hσ) (ex_l e hW1)
      rw [List.length_map] at q
      exact q
    by_cases hw3 : ws.length < 3
    · refine go_when (b := true) (et_is (et_or (a := true) (b := true) (et_is (et_test (ev_op (hlen rfl (Ex.refl _)) ev_c rv_I0)) (decide_eq_true (by omega))) fun h => by cases h) rfl) (fun _ => ?_) (fun h => by cases h)
      exact go_ret ev_c fun H1 e2 => bad (by rw [hgm]; unfold gateL; rw [if_neg (by omega)]) H1 (e1.trans e2)
    have hw3 : 3 ≤ ws.length := by omega
    have hG : gateM z = gateW (ws.getD 0 "") ((ws.drop 1).take (ws.length - 3)) (ws.getD (ws.length - 2) "") (ws.getD (ws.length - 1) "") := by rw [hgm]; unfold gateL; rw [if_pos hw3]
    have geti : ∀ i, i < ws.length → (ws.map V.str)[i]? = some (.str (ws.getD i "")) := fun i hi => by
      rw [List.getElem?_map, List.getElem?_eq_getElem hi, List.getD_eq_getElem?_getD, List.getElem?_eq_getElem hi]; rfl
    have i0 : atI (ws.map V.str) 0 = some (.str (ws.getD 0 "")) := at_list (j := 0) (geti 0 (by omega))
    have i2 : atI (ws.map V.str) ((ws.length : Int) - 2) = some (.str (ws.getD (ws.length - 2) "")) := by rw [show (ws.length : Int) - 2 = ((ws.length - 2 : Nat) : Int) by omega]; exact at_list (geti _ (by omega))
    have i1 : atI (ws.map V.str) ((ws.length : Int) - 1) = some (.str (ws.getD (ws.length - 1) "")) := by rw [show (ws.length : Int) - 1 = ((ws.length - 1 : Nat) : Int) by omega]; exact at_list (geti _ (by omega))
    have mem : ∀ i, i < ws.length → ws.getD i "" ∈ ws := fun i hi => by
      rw [List.getD_eq_getElem?_getD, List.getElem?_eq_getElem hi]; exact List.getElem_mem hi
    have hw0l := hwl _ (mem 0 (by omega))
    have hwdl := hwl _ (mem (ws.length - 1) (by omega))
    have hcut : cutV (ws.map V.str) (some 1) (some ((ws.length - 2 : Nat) : Int)) = ((ws.drop 1).take (ws.length - 3)).map V.str := by
      rw [cutV_nat2 (by omega), List.map_take, List.map_drop]
      congr 1
    have hmidl : ∀ t ∈ (ws.drop 1).take (ws.length - 3), t.length ≤ 30000 := fun t ht => hwl t (List.mem_of_mem_drop (List.mem_of_mem_take ht))
    have hmidn : ((ws.drop 1).take (ws.length - 3)).length ≤ 40000 := by rw [List.length_take]; omega
    generalize ws.getD 0 "" = w0 at *
    generalize (ws.drop 1).take (ws.length - 3) = mid at *
    generalize ws.getD (ws.length - 2) "" = wb at *
    generalize ws.getD (ws.length - 1) "" = wd at *
    have hlm : ∀ {σ : L2.St} {G : Hp} (k : Nat), k ≤ ws.length → σ[1]? = some (some (.ref pw)) → Ex G1 G → Ev (tOp (rI0 fun i j => .int (i - j)) (tCB (rLenS K) (tCons (tVar 1) tNil)) (tC (.int (k : Int)))) σ G (.int ((ws.length : Int) - (k : Int))) := fun k hk hσ e => ev_op (hlen hσ e) ev_c rv_I0
    refine go_when (b := false || (!decide (wb = "by") || decide (w0 = ""))) (et_or (et_is (et_test (ev_op (hlen rfl (Ex.refl _)) ev_c rv_I0)) (decide_eq_false (by omega))) fun _ => et_or (et_test (ev_op (ev_op (ev_var rfl) (hlm 2 (by omega) rfl (Ex.refl _)) (rv_ixL hW1 i2)) ev_c rv_neS)) fun _ => et_test (ev_op (ev_op (ev_var rfl) ev_c (rv_ixL hW1 i0)) ev_c rv_eqS)) (fun h => ?_) (fun h => ?_)
    · refine go_ret ev_c fun H1 e2 => bad ?_ H1 (e1.trans e2)
      rw [hG]; unfold gateW
      rw [if_neg]
      rintro ⟨q1, q2, _⟩
      simp [q1, q2] at h
    have hb : w0 ≠ "" ∧ wb = "by" := by
      have : wb = "by" ∧ ¬ w0 = "" := by simpa using h
      exact ⟨this.2, this.1⟩
    have el := el_lcS (te := tOp rInS (tVar 4) (tC (.str "abcdefghijklmnopqrstuvwxyz"))) (tl := tOp (rIxL K) (tVar 1) (tC (.int 0))) (σ := [some (.str z), some (.ref pw), none, none, none]) (G := G1) (j := 4) (vs := [4]) (x := w0) (fun c => .bl (decide (c ∈ lets))) (ev_op (ev_var rfl) ev_c (rv_ixL hW1 i0)) (by have := TL.len_tl w0; unfold TL.tl at this; simp at this; omega) (fun _ => rfl) (fun c => ev_op (ev_var rfl) ev_c rv_inS)
    have hmp : (w0.cps.toList.map fun c => V.bl (decide (c ∈ lets))) = (w0.cps.toList.map fun c => decide (c ∈ lets)).map V.bl := by rw [List.map_map]; rfl
    rw [hmp] at el
    have hall0 : (w0.cps.toList.map fun c => decide (c ∈ lets)).all id = allIn lets w0 := by
      unfold allIn
      rw [List.all_map]; rfl
    refine go_when (et_not (et_B (ev_allN el))) (fun h => ?_) (fun h => ?_)
    · rw [hall0] at h
      refine go_ret ev_c fun H1 e2 => bad ?_ H1 (e1.trans e2)
      rw [hG]; unfold gateW
      rw [if_neg]
      rintro ⟨_, _, q⟩
      rw [q] at h; cases h
    rw [hall0] at h
    have hall : allIn lets w0 = true := by cases e : allIn lets w0; rw [e] at h; cases h; rfl
    have hG' : gateM z = (match numsM mid, numM wd with
      | some ss, some n => some ⟨w0, ss, n⟩
      | _, _ => none) := by rw [hG]; unfold gateW; rw [if_pos ⟨hb.1, hb.2, hall⟩] <;> (cases numsM mid <;> cases numM wd <;> rfl)
    have hsl : EvL (tSl (rSlL K) (tVar 1) (tPart (tC (.int 1))) (tPart (tOp (rI0 fun i j => .int (i - j)) (tCB (rLenS K) (tCons (tVar 1) tNil)) (tC (.int 2))))) [some (.str z), some (.ref pw), none, none, none] G1 (mid.map V.str) := by
      have := el_sl (K := K) (σ := [some (.str z), some (.ref pw), none, none, none]) (H := G1) (te := tVar 1) (tl := tPart (tC (.int 1))) (th := tPart (tOp (rI0 fun i j => .int (i - j)) (tCB (rLenS K) (tCons (tVar 1) tNil)) (tC (.int 2)))) (lo := some 1) (hi := some ((ws.length - 2 : Nat) : Int)) (ev_var rfl) (eo_some ev_c) (eo_some (ev_is (hlm 2 (by omega) rfl (Ex.refl _)) (by congr 1; omega))) hW1
      rw [hcut] at this
      exact this
    refine go_asgL (xs := (mid.map figV).map V.int) (by
      rw [List.map_map]
      exact el_lcNA mid V.str (fun z => V.int (figV z)) hsl hmidn (fun _ => rfl) (fun x hx => ev_callS (ea_cons (ev_var rfl) ea_nil) (sv_figures (hmidl x hx)))) fun pf hpf => ?_
    have e2 : Ex G1 (upd G1 pf (.lst ((mid.map figV).map V.int))) := Ex.new hpf
    have hpf2 : (upd G1 pf (.lst ((mid.map figV).map V.int))) pf = some (.lst ((mid.map figV).map V.int)) := upd_same
    generalize upd G1 pf (.lst ((mid.map figV).map V.int)) = G2 at e2 hpf2
    have hW2 := ex_l e2 hW1
    have hF2 := sq_of (K := K) hpf2
    have hin := rv_isL (K := K) (x := .int (-1)) hF2 rfl (flat_ints (mid.map figV))
    rw [inV_ints] at hin
    have hm1 : (-1 ∈ mid.map figV) ↔ numsM mid = none := by
      constructor
      · intro hh
        obtain ⟨x, hx, hx1⟩ := List.mem_map.mp hh
        cases e : numsM mid with
        | none => rfl
        | some ss =>
          obtain ⟨n, hn⟩ := (numsM_some e).2 x hx
          rw [figV_m1, hn] at hx1; cases hx1
      · intro hh
        obtain ⟨k, y, hk, hy, _⟩ := numsM_none hh
        exact List.mem_map.mpr ⟨y, List.mem_of_getElem? hk, figV_m1.mpr hy⟩
    have hwdE : ∀ {σ : L2.St} {G : Hp}, σ[1]? = some (some (.ref pw)) → Ex G2 G → Ev (tOp (rIxL K) (tVar 1) (tOp (rI0 fun i j => .int (i - j)) (tCB (rLenS K) (tCons (tVar 1) tNil)) (tC (.int 1)))) σ G (.str wd) := fun hσ e => ev_op (ev_var hσ) (hlm 1 (by omega) hσ (e2.trans e)) (rv_ixL (ex_l e hW2) i1)
    refine go_when (b := decide (-1 ∈ mid.map figV) || decide (figV wd < 0)) (et_or (et_test (ev_op (ev_un ev_c ru_neg) (ev_var rfl) hin)) fun _ => et_test (ev_op (ev_callS (ea_cons (hwdE rfl (Ex.refl _)) ea_nil) (sv_figures hwdl)) ev_c rv_I0)) (fun h => ?_) (fun h => ?_)
    · refine go_ret ev_c fun H1 e3 => bad ?_ H1 ((e1.trans e2).trans e3)
      rw [hG']
      rw [Bool.or_eq_true, decide_eq_true_eq, decide_eq_true_eq, hm1, figV_neg] at h
      rcases h with h | h
      · rw [h]
      · rw [h]; cases numsM mid <;> rfl
    · rw [Bool.or_eq_false_iff, decide_eq_false_iff_not, decide_eq_false_iff_not, hm1, figV_neg] at h
      obtain ⟨h1, h2⟩ := h
      cases hm : numsM mid with
      | none => exact absurd hm h1
      | some ss =>
      cases hd : numM wd with
      | none => exact absurd hd h2
      | some n =>
      have hfs : mid.map figV = ss := by
        rw [← (numsM_some hm).1]
        refine List.map_congr_left fun x hx => ?_
        obtain ⟨k, hk⟩ := (numsM_some hm).2 x hx
        unfold figV; rw [hk]; rfl
      rw [hfs] at hF2
      have hfd : figV wd = n := by unfold figV; rw [hd]; rfl
      refine go_retP (ep_gateP (z := w0) (ss := ss) (d := n) (ev_op (ev_var rfl) ev_c (rv_ixL hW2 i0)) (ep_TupU (eu_tupL (ev_var rfl) hF2)) fun G' e' => by
        rw [← hfd]
        exact ev_callS (ea_cons (hwdE rfl e') ea_nil) (sv_figures hwdl)) fun v G' H1 e3 e4 hg => q _ H1 (((e1.trans e2).trans e3).trans e4) (by rw [hG', hm, hd]; exact hg.mono e4)

end

section
variable {P : Program} {w : World} {K : PySem.W.Frag} {mg : Str → Option Value} {base : Heap} {A : Ads}
def POpt (K : PySem.W.Frag) (H : Hp) (v : V) : Option Plan → Prop
  | none => v = .non
  | some p => PlanAt K H v p
theorem POpt.mono {K : PySem.W.Frag} {H H' : Hp} {v : V} (e : Ex H H') : ∀ {o : Option Plan}, POpt K H v o → POpt K H' v o
  | none, h => h
  | some _, h => PlanAt.mono e h
def sp_l_parsed (K : PySem.W.Frag) (A : Ads) : Sp := fun vs H Q E => ∃ z, vs = [.str z] ∧ z.length ≤ 30000 ∧ ∀ v H', Ex H H' → POpt K H' v (parseM z) → Q v H'
theorem sg_parsed {K : PySem.W.Frag} {A : Ads} {G : Hp} {z : Str} (h : z.length ≤ 30000) : SpG (sp_l_parsed K A) [.str z] G fun v G' => POpt K G' v (parseM z) := fun H e Q E q => ⟨z, rfl, h, fun v H' e' p => q v H' H' (e.trans e') (Ex.refl _) e' p⟩
theorem ok_l_parsed {f : Addr} {fd : FuncData} (F : Fun K "_law_parsed" "_law_parsed" s_l_parsed f fd) (T : Txt K w mg A) (c_l_gate_of : CalX P w K mg base 2 "_law_gate_of" (sp_l_gate_of K A)) (c_l_figures : CalX P w K mg base 1 "_law_figures" (sp_l_figures K A)) : FnOk P w K mg base (L2.CX P w) 3 f fd ["_law_told"] (sp_l_parsed K A) := by
  refine F.okX sc_l_parsed (fun vs H Q E h => ?_) (fun cdv A_ outer s H vs Q E hr h => ?_)
  · obtain ⟨z, rfl, _⟩ := h; rfl
  · obtain ⟨z, rfl, hz, q⟩ := h
    refine ⟨_, (pss_cons (ps_set (i := 1) sc_l_parsed.nd rfl (.inl rfl) (pe_splitN (pv 0) pe_str)) (pss_cons (ps_setLc (i := 2) (own := [("_law_row", 3)]) (g := gName 3) (tt := tYes) rfl sc_l_parsed.nd rfl rfl (sw_true rfl rfl rfl (by decide +kernel)) (pi_L K (pe_slice (slL K) (pv 1) (po_some pe_int) po_none)) (blkOk_by (own := [("_law_row", 3)]) (N := ["_law_told", "_law_rows", "_law_gates", "_law_row"]) (sc := defScope s_l_parsed) (by decide +kernel)) (fun _ _ _ _ _ => pg_name (i := 3) sc_l_parsed.nd rfl (Or.inl rfl)) (fun _ _ _ _ _ => pts_nil) (fun _ _ _ _ _ => (pe_cx c_l_gate_of hr (by decide) rfl takes0 (pa_cons (pv 3) pa_nil)))) (pss_cons (ps_if (PW.pt (pw_or (pt_cmpR op_ne (pe_slice C8.sl_txt (pe_ix (ixL K) (pv 1) pe_int (fun _ _ => rfl)) po_none (po_some pe_int)) pe_str (nomark _)) (pw_or (pt_cmpR op_lt (pe_cx c_l_figures hr (by decide) rfl (takes_of rfl rfl rfl rfl) (pa_cons (pe_slice C8.sl_txt (pe_ix (ixL K) (pv 1) pe_int (fun _ _ => rfl)) (po_some pe_int) po_none) pa_nil)) pe_int (nomark _)) (pw_or1 (pt_cmpR (o_inD K (un65 hr)) pe_non (pv 2) rfl))))) (pss_cons (ps_ret pe_non) pss_nil) pss_nil) (pss_cons (ps_ret (pe_tup (pa_cons (pe_cx c_l_figures hr (by decide) rfl (takes_of rfl rfl rfl rfl) (pa_cons (pe_slice C8.sl_txt (pe_ix (ixL K) (pv 1) pe_int (fun _ _ => rfl)) (po_some pe_int) po_none) pa_nil)) (pa_cons (pv 2) pa_nil)))) pss_nil)))), ?_⟩
    try dsimp only [cxOf, Cx.blk]
    refine Go.start (σ := [some (.str z), none, none, none]) ?_
    have bad : parseM z = none → ∀ H1, Ex H H1 → Q .non H1 := fun h H1 e => q _ H1 e (by rw [h]; rfl)
    refine go_asgL (el_split (b := "\n") (ev_var rfl) ev_c (by decide +kernel) (by omega)) fun pw hpw => ?_
    have hwl : ∀ t ∈ Txt.split z "\n", t.length ≤ 30000 := fun t ht => by have := word_len ht; omega
    have hmany := split_many z "\n"
    have hgm : parseM z = parseL (Txt.split z "\n") := rfl
    have hne := split_ne z
    generalize Txt.split z "\n" = ws at *
    obtain ⟨r0, rest, rfl⟩ := List.exists_cons_of_ne_nil hne
    have e1 : Ex H (upd H pw (.lst ((r0 :: rest).map V.str))) := Ex.new hpw
    have hW1 : SqL K (upd H pw (.lst ((r0 :: rest).map V.str))) pw ((r0 :: rest).map V.str) := sq_of upd_same
    generalize upd H pw (.lst ((r0 :: rest).map V.str)) = G1 at *
    have i0 : atI ((r0 :: rest).map V.str) 0 = some (.str r0) := at_list (j := 0) rfl
    have hr0 := hwl r0 List.mem_cons_self
    have hrl : ∀ t ∈ rest, t.length ≤ 30000 := fun t ht => hwl t (List.mem_cons_of_mem _ ht)
    rw [List.length_cons] at hmany
    have hs1 := slice_len r0 none (some 3)
    have hs2 := slice_len r0 (some 3) none
    have hsl : EvL (tSl (rSlL K) (tVar 1) (tPart (tC (.int 1))) tNoPart) [some (.str z), some (.ref pw), none, none] G1 (rest.map V.str) := by
      have := el_sl (K := K) (σ := [some (.str z), some (.ref pw), none, none]) (H := G1) (te := tVar 1) (tl := tPart (tC (.int ((1 : Nat) : Int)))) (th := tNoPart) (ev_var rfl) (eo_some ev_c) eo_none hW1
      rw [cutV_from] at this
      exact this
    refine go_asgP (ep_lcPN (K := K) (R := GOpt K) (G := G1) (j := 3) (vs := [3]) rest V.str gateM (lasts_gopt K) hsl (by omega) (fun _ => rfl) (fun x hx => ep_call (ea_cons (ev_var rfl) ea_nil) (sg_l_gate_of (hrl x hx)))) fun v G2 e2 hv => ?_
    obtain ⟨pg, gws, rfl, _, hpg, hgR⟩ := hv
    have hW2 := ex_l e2 hW1
    have hnum : ∀ {σ : L2.St} {G : Hp}, σ[1]? = some (some (.ref pw)) → Ex G2 G → Ev (tSl C8.rSlX (tOp (rIxL K) (tVar 1) (tC (.int 0))) (tPart (tC (.int 3))) tNoPart) σ G (.str (Txt.slice r0 (some 3) none)) := fun hσ e => ev_slX (ev_op (ev_var hσ) ev_c (rv_ixL (ex_l e hW2) i0)) (eo_some ev_c) eo_none (by omega)
    have hin := rv_inD (K := K) (sq_of hpg) hgR (fun o ho g hog => by
      obtain ⟨x, _, rfl⟩ := List.mem_map.mp ho
      exact (gateM_str hog).1)
    rw [gatesM_any] at hin
    refine go_when (b := !decide (Txt.slice r0 none (some 3) = "in ") || (decide (figV (Txt.slice r0 (some 3) none) < 0) || (gatesM rest).isNone)) (et_or (et_test (ev_op (ev_slX (ev_op (ev_var rfl) ev_c (rv_ixL hW2 i0)) eo_none (eo_some ev_c) (by omega)) ev_c rv_neS)) fun _ => et_or (et_test (ev_op (ev_callS (ea_cons (hnum rfl (Ex.refl _)) ea_nil) (sv_figures (by omega))) ev_c rv_I0)) fun _ => et_test (ev_op ev_c (ev_var rfl) hin)) (fun h => ?_) (fun h => ?_)
    · refine go_ret ev_c fun H1 e3 => bad ?_ H1 ((e1.trans e2).trans e3)
      rw [hgm]; unfold parseL
      by_cases c : Txt.slice r0 none (some 3) = "in "
      · simp only [if_pos c]
        rw [decide_eq_true c] at h
        simp only [Bool.not_true, Bool.false_or, Bool.or_eq_true, decide_eq_true_eq, figV_neg] at h
        rcases h with h | h
        · rw [h]
        · cases hg : gatesM rest with
          | none => cases numM (Txt.slice r0 (some 3) none) <;> rfl
          | some gs => rw [hg] at h; cases h
      · simp only [if_neg c]
    · simp only [Bool.or_eq_false_iff, Bool.not_eq_false', decide_eq_true_eq, decide_eq_false_iff_not, figV_neg] at h
      obtain ⟨c, h1, h2⟩ := h
      cases hm : numM (Txt.slice r0 (some 3) none) with
      | none => exact absurd hm h1
      | some m =>
      cases hg : gatesM rest with
      | none => rw [hg] at h2; cases h2
      | some gs =>
      have hp : parseM z = some ⟨m, gs⟩ := by rw [hgm]; unfold parseL; simp only [if_pos c, hm, hg]
      have hfm : figV (Txt.slice r0 (some 3) none) = m := by unfold figV; rw [hm]; rfl
      rw [gatesM_map hg] at hgR
      have hgR2 : Rows (GateAt K G2) gws gs := ⟨by have := hgR.1; rw [List.length_map] at this; exact this, fun i v g h1 h2 => hgR.2 i v (some g) h1 (by rw [List.getElem?_map, h2]; rfl)⟩
      refine go_retP (ep_tup (R := fun v G' => PlanAt K G' v ⟨m, gs⟩) (eap_ev (v := .int m) (by rw [← hfm]; exact ev_callS (ea_cons (hnum rfl (Ex.refl _)) ea_nil) (sv_figures (by omega))) (EvAP.of (ea_cons (ev_var rfl) ea_nil))) ?_ ?_) fun v G' H1 e3 e4 hpl => q _ H1 (((e1.trans e2).trans e3).trans e4) (by rw [hp]; exact hpl.mono e4)
      · rintro vs G' ⟨_, rfl, rfl, _⟩; show 2 ≤ 100000; decide
      · rintro vs G' t e' ⟨_, rfl, rfl, rfl⟩ ht
        exact ⟨t, pg, rfl, st_of upd_same, gws, sq_of (Ex.new ht _ _ hpg), rows_imp hgR2 fun _ _ r => r.mono (Ex.new ht)⟩

end

section
variable {P : Program} {w : World} {K : PySem.W.Frag} {mg : Str → Option Value} {base : Heap} {A : Ads}
def sp_l_fault (K : PySem.W.Frag) (A : Ads) : Sp := fun vs H Q E => ∃ v g lines, vs = [v, .int lines] ∧ GateAt K H v g ∧ g.srcs.length ≤ 40000 ∧ (∀ s ∈ g.srcs, 0 ≤ s) ∧ RetV (.str (faultW g lines)) H Q
theorem sv_fault {K : PySem.W.Frag} {A : Ads} {G : Hp} {v : V} {g : Gate} {lines : Int} (h : GateAt K G v g) (hn : g.srcs.length ≤ 40000) (h0 : ∀ s ∈ g.srcs, 0 ≤ s) : SpV (sp_l_fault K A) [v, .int lines] G (.str (faultW g lines)) := fun _ e _ q _ => ⟨v, g, lines, rfl, h.mono e, hn, h0, q⟩
theorem ok_l_fault {f : Addr} {fd : FuncData} (F : Fun K "_law_fault" "_law_fault" s_l_fault f fd) (T : Txt K w mg A)  : FnOk P w K mg base (L2.CX P w) 1 f fd ["_law_gate", "_law_lines"] (sp_l_fault K A) := by
  refine F.okX sc_l_fault (fun vs H Q E h => ?_) (fun cdv A_ outer s H vs Q E hr h => ?_)
  · obtain ⟨v, g, lines, rfl, _⟩ := h; rfl
  · obtain ⟨v, g, lines, rfl, ⟨ga, gs, rfl, hG, hS⟩, hn, hs0, q⟩ := h
    refine ⟨_, (pss_cons (ps_for (passes_of rfl) rfl (pi_range1 rfl T.n_range (pa_cons pe_int pa_nil)) (pg_name (i := 2) sc_l_fault.nd rfl (.inl rfl)) (pss_cons (ps_if (pt_cmpR op_eq (pe_ix (ixT K) (pv 0) pe_int (fun _ _ => rfl)) (pe_ix (ixL K) (pe_lst (pa_cons pe_str (pa_cons pe_str (pa_cons pe_str (pa_cons pe_str (pa_cons pe_str (pa_cons pe_str (pa_cons pe_str (pa_cons pe_str (pa_cons pe_str pa_nil)))))))))) (pv 2) (fun _ _ => rfl)) (nomark _)) (pss_cons (ps_set (i := 3) sc_l_fault.nd rfl (.inl rfl) (pe_ix (ixL K) (pe_lst (pa_cons pe_int (pa_cons pe_int (pa_cons pe_int (pa_cons pe_int (pa_cons pe_int (pa_cons pe_int (pa_cons pe_int (pa_cons pe_int (pa_cons pe_int pa_nil)))))))))) (pv 2) (fun _ _ => rfl))) (pss_cons (ps_set (i := 4) sc_l_fault.nd rfl (.inl rfl) (pe_ix (ixL K) (pe_lst (pa_cons pe_int (pa_cons pe_int (pa_cons pe_int (pa_cons pe_int (pa_cons pe_int (pa_cons pe_int (pa_cons pe_int (pa_cons pe_int (pa_cons pe_int pa_nil)))))))))) (pv 2) (fun _ _ => rfl))) (pss_cons (ps_if (PW.pt (pw_or (pt_cmpR op_lt (pe_callB (c_len K) (by rfl) T.n_len PySem.boot_len (pa_cons (pe_ix (ixT K) (pv 0) pe_int (fun _ _ => rfl)) pa_nil)) (pv 3) (nomark _)) (pw_or1 (pt_cmpR op_gt (pe_callB (c_len K) (by rfl) T.n_len PySem.boot_len (pa_cons (pe_ix (ixT K) (pv 0) pe_int (fun _ _ => rfl)) pa_nil)) (pv 4) (nomark _))))) (pss_cons (ps_ret pe_str) pss_nil) pss_nil) (pss_cons (ps_if (pt_not (pt_val (pe_callB (c_all K rfl) (by rfl) T.n_all (by decide +kernel) (pa_cons (pe_lc (own := [("_law_source", 5)]) (g := gName 5) (tt := tYes) rfl sc_l_fault.nd (pi_T K (pe_ix (ixT K) (pv 0) pe_int (fun _ _ => rfl))) (blkOk_by (own := [("_law_source", 5)]) (N := ["_law_gate", "_law_lines", "_law_k", "_law_low", "_law_high", "_law_source"]) (sc := defScope s_l_fault) (by decide +kernel)) (fun _ _ _ _ _ => pg_name (i := 5) sc_l_fault.nd rfl (Or.inl rfl)) (fun _ _ _ _ _ => pts_nil) (fun _ _ _ _ _ => (pe_cmpR op_lt (pv 5) (pv 1) (nomark _)))) pa_nil)))) (pss_cons (ps_ret pe_str) pss_nil) pss_nil) (pss_cons (ps_ret (pe_ix (ixL K) (pe_lst (pa_cons pe_str (pa_cons pe_str pa_nil))) (pe_callTy call_intB (by rfl) T.n_int (by decide +kernel) (pa_cons (pe_or (pe_cmpR op_lt (pe_ix (ixT K) (pv 0) pe_int (fun _ _ => rfl)) pe_int (nomark _)) (pe_one (pe_cmpR op_gt (pe_ix (ixT K) (pv 0) pe_int (fun _ _ => rfl)) pe_int (nomark _)))) pa_nil)) (fun _ _ => rfl))) pss_nil))))) pss_nil) pss_nil)) (pss_cons (ps_ret pe_str) pss_nil)), ?_⟩
    try dsimp only [cxOf, Cx.blk]
    refine Go.start (σ := [some (.ref ga), some (.int lines), none, none, none, none]) ?_
    have i0 : atI [V.str g.kind, .ref gs, .int g.delay] 0 = some (.str g.kind) := rfl
    have i1 : atI [V.str g.kind, .ref gs, .int g.delay] 1 = some (.ref gs) := rfl
    have i2 : atI [V.str g.kind, .ref gs, .int g.delay] 2 = some (.int g.delay) := rfl
    refine go_forR1 (n := 9) H (ea_cons ev_c ea_nil) ⟨by decide, by decide⟩ (Ex.refl _) (fun k σ' G' => ∃ y, σ' = [some (.ref ga), some (.int lines), y, none, none, none] ∧ ∀ j : Int, 0 ≤ j → j < k → g.kind ≠ kindsF.getD j.toNat "") ⟨none, rfl, fun j _ _ => by omega⟩ ?_ ?_
    · rintro k σ' G' k0 k1 e ⟨y, rfl, hk⟩
      have hG := ex_t e hG
      have hS := ex_t e hS
      refine go_when (b := decide (g.kind = kindsF.getD k.toNat "")) (et_test (ev_op (ev_op (ev_var rfl) ev_c (rv_ixT hG i0)) (ev_ixLit (el_lst (by walk_at "ea") (by show 9 ≤ 100000; decide)) (ev_var rfl) (by exact at_map V.str kindsF "" k0 k1)) rv_eqS)) (fun h => ?_) (fun h => ?_)
      · have hkd := of_decide_eq_true h
        have hw := kindsF_wants k0 k1
        rw [← hkd] at hw
        refine go_asg (v := .int (lowF.getD k.toNat 0)) (ev_ixLit (el_lst (by walk_at "ea") (by show 9 ≤ 100000; decide)) (ev_var rfl) (by exact at_map V.int lowF 0 k0 k1)) ?_
        refine go_asg (v := .int (highF.getD k.toNat 0)) (ev_ixLit (el_lst (by walk_at "ea") (by show 9 ≤ 100000; decide)) (ev_var rfl) (by exact at_map V.int highF 0 k0 k1)) ?_
        generalize lowF.getD k.toNat 0 = lo at *
        generalize highF.getD k.toNat 0 = hi at *
        have hlen : ∀ {σ : L2.St}, σ[0]? = some (some (.ref ga)) → Ev (tCB (rLenS K) (tCons (tOp (rIxT K) (tVar 0) (tC (.int 1))) tNil)) σ G' (.int (g.srcs.length : Int)) := fun hσ => by
          have q := ev_lenT (K := K) (ev_op (ev_var hσ) ev_c (rv_ixT hG i1)) hS
          rw [List.length_map] at q
          exact q
        refine go_when (et_or (et_test (ev_op (hlen rfl) (ev_var rfl) rv_I0)) fun _ => et_test (ev_op (hlen rfl) (ev_var rfl) rv_I0)) (fun h => ?_) (fun h => ?_)
        · have h2 : ¬ (lo ≤ (g.srcs.length : Int) ∧ (g.srcs.length : Int) ≤ hi) := fun ⟨a, b⟩ => by
            simp only [Bool.or_eq_true, decide_eq_true_eq] at h
            omega
          rw [fault_sources hw h2] at q
          exact go_ret ev_c fun H1 e1 => q H1 (e.trans e1)
        have h2 : lo ≤ (g.srcs.length : Int) ∧ (g.srcs.length : Int) ≤ hi := by
          simp only [Bool.or_eq_false_iff, decide_eq_false_iff_not] at h
          omega
        have el := el_lcTA (K := K) (te := tOp (rI0 fun i j => .bl (decide (i < j))) (tVar 5) (tVar 1)) (tl := tOp (rIxT K) (tVar 0) (tC (.int 1))) (σ := [some (.ref ga), some (.int lines), some (.int k), some (.int lo), some (.int hi), none]) (G := G') (j := 5) (vs := [5]) g.srcs V.int (fun s => .bl (decide (s < lines))) (ev_op (ev_var rfl) ev_c (rv_ixT hG i1)) hS hn (fun _ => rfl) (fun s _ => ev_op (ev_var rfl) (ev_var rfl) rv_I0)
        rw [show (g.srcs.map fun s => V.bl (decide (s < lines))) = (g.srcs.map fun s => decide (s < lines)).map V.bl by rw [List.map_map]; rfl] at el
        have hall : (g.srcs.map fun s => decide (s < lines)).all id = !(g.srcs.any fun s => !(decide (0 ≤ s) && decide (s < lines))) := by
          clear el hS
          revert hs0
          induction g.srcs with
          | nil => intro _; rfl
          | cons a r ih =>
            intro h0
            rw [List.map_cons, List.all_cons, List.any_cons, ih fun s hs => h0 s (List.mem_cons_of_mem _ hs), Bool.not_or, Bool.not_not, decide_eq_true (h0 a List.mem_cons_self), Bool.true_and]; rfl
        refine go_when (et_not (et_B (ev_allN el))) (fun h => ?_) (fun h => ?_)
        · rw [hall, Bool.not_not] at h
          rw [fault_line hw h2 h] at q
          exact go_ret ev_c fun H1 e1 => q H1 (e.trans e1)
        · rw [hall, Bool.not_not] at h
          rw [fault_delay hw h2 h] at q
          refine go_ret (v := .str (if 1 ≤ g.delay ∧ g.delay ≤ 60 then ("" : Str) else ("delay" : Str))) (ev_ixLit (xs := [V.str "", V.str "delay"]) (el_lst (by walk_at "ea") (by show 2 ≤ 100000; decide)) (ev_intB (ev_orV (ev_op (ev_op (ev_var rfl) ev_c (rv_ixT hG i2)) ev_c rv_I0) fun _ => ev_op (ev_op (ev_var rfl) ev_c (rv_ixT hG i2)) ev_c rv_I0)) ?_) fun H1 e1 => q H1 (e.trans e1)
          by_cases c : 1 ≤ g.delay ∧ g.delay ≤ 60
          · rw [if_pos c, decide_eq_false (by omega), decide_eq_false (by omega)]; rfl
          · rw [if_neg c]
            by_cases c1 : g.delay < 1
            · rw [decide_eq_true c1]; rfl
            · rw [decide_eq_false c1, decide_eq_true (by omega)]; rfl
      · have hkd := of_decide_eq_false h
        refine go_kb e ⟨_, rfl, fun j j0 j1 => ?_⟩
        by_cases c : j = k
        · subst c; exact hkd
        · exact hk j j0 (by omega)
    · rintro σ' G' e ⟨y, rfl, hk⟩
      have hk : ∀ j : Int, 0 ≤ j → j < 9 → g.kind ≠ kindsF.getD j.toNat "" := fun j j0 j1 => hk j j0 (by show j < 9; exact j1)
      rw [fault_kind (kindsF_none hk)] at q
      exact go_ret ev_c fun H1 e1 => q H1 (e.trans e1)

end

section
variable {P : Program} {w : World} {K : PySem.W.Frag} {mg : Str → Option Value} {base : Heap} {A : Ads}
def dueW (z : Str) : Str := match readR z with
  | .ok _ => ""
  | .error e => errWord e
def sp_l_due (K : PySem.W.Frag) (A : Ads) : Sp := fun vs H Q E => ∃ z, vs = [.str z] ∧ z.length ≤ 30000 ∧ RetV (.str (dueW z)) H Q
theorem sv_due {K : PySem.W.Frag} {A : Ads} {G : Hp} {z : Str} (h : z.length ≤ 30000) : SpV (sp_l_due K A) [.str z] G (.str (dueW z)) := fun _ _ _ q _ => ⟨z, rfl, h, q⟩
theorem parse_gates {z : Str} {p : Plan} (h : parseM z = some p) : 0 ≤ p.many ∧ ∀ g ∈ p.gates, PyData.strOk g.kind = true ∧ g.srcs.length ≤ z.length ∧ ∀ s ∈ g.srcs, 0 ≤ s := by
  unfold parseM parseL at h
  cases hs : Txt.split z "\n" with
  | nil => rw [hs] at h; cases h
  | cons r0 rest =>
    rw [hs] at h
    dsimp only at h
    split at h
    · cases hm : numM (Txt.slice r0 (some 3) none) with
      | none => rw [hm] at h; cases h
      | some m =>
        rw [hm] at h
        cases hg : gatesM rest with
        | none => rw [hg] at h; cases h
        | some gs =>
          rw [hg] at h
          cases h
          refine ⟨numM_nn hm, fun g hgm => ?_⟩
          obtain ⟨q1, q2⟩ := gatesM_some hg
          have hgm : g ∈ gs := hgm
          rw [← q1] at hgm
          obtain ⟨x, hx, rfl⟩ := List.mem_map.mp hgm
          obtain ⟨g2, hg2⟩ := q2 x hx
          rw [hg2]
          have := gateM_str hg2
          have hxl : x.length ≤ z.length := word_len (b := "\n") (by rw [hs]; exact List.mem_cons_of_mem _ hx)
          exact ⟨this.1, Nat.le_trans this.2.1 hxl, this.2.2⟩
    · cases h
theorem ok_l_due {f : Addr} {fd : FuncData} (F : Fun K "_law_due" "_law_due" s_l_due f fd) (T : Txt K w mg A) (c_l_parsed : CalX P w K mg base 3 "_law_parsed" (sp_l_parsed K A)) (c_l_fault : CalX P w K mg base 1 "_law_fault" (sp_l_fault K A)) : FnOk P w K mg base (L2.CX P w) 4 f fd ["_law_told"] (sp_l_due K A) := by
  refine F.okX sc_l_due (fun vs H Q E h => ?_) (fun cdv A_ outer s H vs Q E hr h => ?_)
  · obtain ⟨z, rfl, _⟩ := h; rfl
  · obtain ⟨z, rfl, hz, q⟩ := h
    refine ⟨_, (pss_cons (ps_set (i := 1) sc_l_due.nd rfl (.inl rfl) (pe_cx c_l_parsed hr (by decide) rfl (takes_of rfl rfl rfl rfl) (pa_cons (pv 0) pa_nil))) (pss_cons (ps_if (pt_cmpR op_isN1 (pv 1) pe_non (nomark _)) (pss_cons (ps_ret pe_str) pss_nil) pss_nil) (pss_cons (ps_if (PW.pt (pw_or (pt_cmpR op_gt (pe_ix (ixT K) (pv 1) pe_int (fun _ _ => rfl)) pe_int (nomark _)) (pw_or1 (pt_cmpR op_gt (pe_callB (c_len K) (by rfl) T.n_len PySem.boot_len (pa_cons (pe_ix (ixT K) (pv 1) pe_int (fun _ _ => rfl)) pa_nil)) pe_int (nomark _))))) (pss_cons (ps_ret pe_str) pss_nil) pss_nil) (pss_cons (ps_for (passes_of rfl) rfl (pi_L K (pe_ix (ixT K) (pv 1) pe_int (fun _ _ => rfl))) (pg_name (i := 2) sc_l_due.nd rfl (.inl rfl)) (pss_cons (ps_if (pt_cmpR op_ne (pe_cx c_l_fault hr (by decide) rfl (takes_of rfl rfl rfl rfl) (pa_cons (pv 2) (pa_cons (pe_op op_add (pe_ix (ixT K) (pv 1) pe_int (fun _ _ => rfl)) (pe_callB (c_len K) (by rfl) T.n_len PySem.boot_len (pa_cons (pe_ix (ixT K) (pv 1) pe_int (fun _ _ => rfl)) pa_nil))) pa_nil))) pe_str (nomark _)) (pss_cons (ps_ret (pe_cx c_l_fault hr (by decide) rfl (takes_of rfl rfl rfl rfl) (pa_cons (pv 2) (pa_cons (pe_op op_add (pe_ix (ixT K) (pv 1) pe_int (fun _ _ => rfl)) (pe_callB (c_len K) (by rfl) T.n_len PySem.boot_len (pa_cons (pe_ix (ixT K) (pv 1) pe_int (fun _ _ => rfl)) pa_nil))) pa_nil)))) pss_nil) pss_nil) pss_nil)) (pss_cons (ps_ret pe_str) pss_nil))))), ?_⟩
    try dsimp only [cxOf, Cx.blk]
    refine Go.start (σ := [some (.str z), none, none]) ?_
    refine go_asgP (ep_call (ea_cons (ev_var rfl) ea_nil) (sg_parsed hz)) fun v G1 e1 hv => ?_
    cases hp : parseM z with
    | none =>
      rw [hp] at hv
      have hv : v = .non := hv
      subst hv
      have hd : dueW z = "text" := by unfold dueW readR; rw [hp]; rfl
      rw [hd] at q
      refine go_when (b := true) (et_is (et_test (ev_op (ev_var rfl) ev_c rv_isN)) (by simp)) (fun _ => ?_) (fun h => by cases h)
      exact go_ret ev_c fun H1 e2 => q H1 (e1.trans e2)
    | some p =>
      rw [hp] at hv
      obtain ⟨m0, hgs⟩ := parse_gates hp
      obtain ⟨pa, pg, rfl, hP, ws, hL, hR⟩ := hv
      have i0 : atI [V.int p.many, .ref pg] 0 = some (.int p.many) := rfl
      have i1 : atI [V.int p.many, .ref pg] 1 = some (.ref pg) := rfl
      have hdw : dueW z = (match errPlan p with
        | none => ""
        | some e => errWord e) := by unfold dueW readR; rw [hp]; show (match orErr (errPlan p) p with | .ok _ => _ | .error e => _) = _; cases errPlan p <;> rfl
      refine go_when (b := false) (et_is (et_test (ev_op (ev_var rfl) ev_c rv_isN)) (by simp)) (fun h => by cases h) (fun _ => ?_)
      have eM : ∀ {σ : L2.St} {G : Hp}, σ[1]? = some (some (.ref pa)) → Ex G1 G → Ev (tOp (rIxT K) (tVar 1) (tC (.int 0))) σ G (.int p.many) := fun h e => ev_op (ev_var h) ev_c (rv_ixT (ex_t e hP) i0)
      have eN : ∀ {σ : L2.St} {G : Hp}, σ[1]? = some (some (.ref pa)) → Ex G1 G → Ev (tCB (rLenS K) (tCons (tOp (rIxT K) (tVar 1) (tC (.int 1))) tNil)) σ G (.int (p.gates.length : Int)) := fun h e => by
        have q := ev_len (K := K) (ev_op (ev_var h) ev_c (rv_ixT (ex_t e hP) i1)) (ex_l e hL)
        rw [hR.1] at q
        exact q
      refine go_when (b := decide (60 < p.many) || decide (200 < (p.gates.length : Int))) (et_or (et_test (ev_op (eM rfl (Ex.refl _)) ev_c rv_I0)) fun _ => et_test (ev_op (eN rfl (Ex.refl _)) ev_c rv_I0)) (fun h => ?_) (fun h => ?_)
      · have hc : ¬ (0 ≤ p.many ∧ p.many ≤ 60) ∨ 200 < p.gates.length := by
          simp only [Bool.or_eq_true, decide_eq_true_eq] at h
          omega
        have hd : dueW z = "size" := by rw [hdw]; unfold errPlan; rw [if_pos hc]; rfl
        rw [hd] at q
        exact go_ret ev_c fun H1 e2 => q H1 (e1.trans e2)
      have hc : ¬ (¬ (0 ≤ p.many ∧ p.many ≤ 60) ∨ 200 < p.gates.length) := by
        simp only [Bool.or_eq_false_iff, decide_eq_false_iff_not] at h
        omega
      have hpe : errPlan p = errGates p.lines p.gates := by unfold errPlan; rw [if_neg hc]
      have fE : ∀ {σ : L2.St} {G : Hp} {w : V} {g : Gate}, σ[1]? = some (some (.ref pa)) → σ[2]? = some (some w) → Ex G1 G → GateAt K G1 w g → g ∈ p.gates → Ev (tCallS (sp_l_fault K A) (WE fun cls d _ H => E cls d H) (tCons (tVar 2) (tCons (tOp (rI0 fun i j => .int (i + j)) (tOp (rIxT K) (tVar 1) (tC (.int 0))) (tCB (rLenS K) (tCons (tOp (rIxT K) (tVar 1) (tC (.int 1))) tNil))) tNil))) σ G (.str (faultW g p.lines)) := fun h1 h2 e hg hm =>
        ev_callS (ea_cons (ev_var h2) (ea_cons (ev_op (eM h1 e) (eN h1 e) rv_I0) ea_nil)) (sv_fault (hg.mono e) (by have := (hgs _ hm).2.1; omega) (hgs _ hm).2.2)
      refine go_forL G1 (a := pg) (ev_op (ev_var rfl) ev_c (rv_ixT hP i1)) (Ex.refl _) hL (fun i σ' G' => ∃ y, σ' = [some (.str z), some (.ref pa), y] ∧ ∀ k g, k < i → p.gates[k]? = some g → errGate g p.lines = none) ⟨none, rfl, fun k g hk => by omega⟩ ?_ ?_
      · rintro i w σ' G' hx e ⟨y, rfl, hk⟩
        obtain ⟨g, hg, hGA⟩ := rows_get' hR hx
        have hm := List.mem_of_getElem? hg
        refine go_when (b := !decide (faultW g p.lines = "")) (et_test (ev_op (fE rfl rfl e hGA hm) ev_c rv_neS)) (fun h => ?_) (fun h => ?_)
        · have hn : ¬ faultW g p.lines = "" := by simpa using h
          cases he : errGate g p.lines with
          | none => exact absurd (by unfold faultW; rw [he]) hn
          | some x =>
            have hpx : errPlan p = some x := by rw [hpe]; exact errGates_first hk hg he
            have hd : dueW z = faultW g p.lines := by rw [hdw, hpx]; unfold faultW; rw [he]
            rw [hd] at q
            exact go_ret (fE rfl rfl e hGA hm) fun H1 e2 => q H1 ((e1.trans e).trans e2)
        · have hn : faultW g p.lines = "" := by simpa using h
          refine go_kb e ⟨_, rfl, fun k g' hk' hg' => ?_⟩
          by_cases hki : k = i
          · subst hki
            rw [hg] at hg'; cases hg'
            cases he : errGate g p.lines with
            | none => rfl
            | some x =>
              unfold faultW at hn; rw [he] at hn
              cases x <;> exact absurd hn (by decide +kernel)
          · exact hk k g' (by omega) hg'
      · rintro σ' G' e ⟨y, rfl, hk⟩
        have hd : dueW z = "" := by
          rw [hdw, hpe, errGates_all fun k g hg => hk k g (by rw [hR.1]; exact (List.getElem?_eq_some_iff.mp hg).1) hg]
        rw [hd] at q
        exact go_ret ev_c fun H1 e2 => q H1 ((e1.trans e).trans e2)

end

section
variable {P : Program} {w : World} {K : PySem.W.Frag} {mg : Str → Option Value} {base : Heap} {A : Ads}
def sp_l_whole (K : PySem.W.Frag) (A : Ads) : Sp := fun vs H Q E => ∃ i, vs = [.int i] ∧ RetV (.bl true) H Q
theorem sv_whole {K : PySem.W.Frag} {A : Ads} {G : Hp} {i : Int} : SpV (sp_l_whole K A) [.int i] G (.bl true) := fun _ e _ q _ => ⟨i, rfl, q⟩
theorem ok_l_whole {f : Addr} {fd : FuncData} (F : Fun K "_law_whole" "_law_whole" s_l_whole f fd) (T : Txt K w mg A)  : FnOk P w K mg base (L2.CX P w) 1 f fd ["_law_found"] (sp_l_whole K A) := by
  refine F.okX sc_l_whole (fun vs H Q E h => ?_) (fun cdv A_ outer s H vs Q E hr h => ?_)
  · obtain ⟨i, rfl, _⟩ := h; rfl
  · obtain ⟨i, rfl, q⟩ := h
    refine ⟨_, (pss_cons (ps_ret (pe_and (pe_callB (c_isi K) (by rfl) T.n_isinstance (by decide +kernel) (pa_cons (pv 0) (pa_cons (pe_bltn (v := .ty "int") rfl T.n_int (by decide +kernel) rfl) pa_nil))) (pe_one (pe_not (pe_callB (c_isi K) (by rfl) T.n_isinstance (by decide +kernel) (pa_cons (pv 0) (pa_cons (pe_bltn (v := .ty "bool") rfl T.n_bool (by decide +kernel) rfl) pa_nil))))))) pss_nil), ?_⟩
    try dsimp only [cxOf, Cx.blk]
    refine Go.start (σ := [some (.int i)]) ?_
    refine go_ret (v := .bl (true && !false)) (by walk_at "ev") fun H1 e1 => q H1 e1

end
local macro_rules | `(tactic| walk_at "sv") => `(tactic| exact sv_whole)

section
variable {P : Program} {w : World} {K : PySem.W.Frag} {mg : Str → Option Value} {base : Heap} {A : Ads}
def sp_l_same_plan (K : PySem.W.Frag) (A : Ads) : Sp := fun vs H Q E => ∃ v w p, vs = [v, w] ∧ PlanAt K H v p ∧ PlanAt K H w p ∧ (∀ g ∈ p.gates, PyData.strOk g.kind = true) ∧ p.gates.length ≤ 4000 ∧ (∀ g ∈ p.gates, g.srcs.length ≤ 4000) ∧ RetV (.bl true) H Q
theorem sv_same_plan {K : PySem.W.Frag} {A : Ads} {G : Hp} {v w : V} {p : Plan} (h : PlanAt K G v p) (h2 : PlanAt K G w p) (hs : ∀ g ∈ p.gates, PyData.strOk g.kind = true) (hn : p.gates.length ≤ 4000) (hn2 : ∀ g ∈ p.gates, g.srcs.length ≤ 4000) : SpV (sp_l_same_plan K A) [v, w] G (.bl true) := fun _ e _ q _ => ⟨v, w, p, rfl, h.mono e, h2.mono e, hs, hn, hn2, q⟩
theorem ok_l_same_plan {f : Addr} {fd : FuncData} (F : Fun K "_law_same_plan" "_law_same_plan" s_l_same_plan f fd) (T : Txt K w mg A) (c_l_whole : CalX P w K mg base 1 "_law_whole" (sp_l_whole K A)) : FnOk P w K mg base (L2.CX P w) 2 f fd ["_law_found", "_law_due_here"] (sp_l_same_plan K A) := by
  refine F.okX sc_l_same_plan (fun vs H Q E h => ?_) (fun cdv A_ outer s H vs Q E hr h => ?_)
  · obtain ⟨v, w, p, rfl, _⟩ := h; rfl
  · obtain ⟨v, w, p, rfl, ⟨a, g, rfl, hP, ws, hL, hR⟩, ⟨a', g', rfl, hP', ws', hL', hR'⟩, hstr, hn, hn2, q⟩ := h
    refine ⟨_, (pss_cons (ps_if (PW.pt (pw_or (pt_not (pt_val (pe_callB (c_isi K) (by rfl) T.n_isinstance (by decide +kernel) (pa_cons (pv 0) (pa_cons (pe_bltn (v := .ty "tuple") rfl T.n_tuple (by decide +kernel) rfl) pa_nil))))) (pw_or (pt_cmpR op_ne (pe_callB (c_len K) (by rfl) T.n_len PySem.boot_len (pa_cons (pv 0) pa_nil)) pe_int (nomark _)) (pw_or (pt_not (pt_val (pe_cx c_l_whole hr (by decide) rfl (takes_of rfl rfl rfl rfl) (pa_cons (pe_ix (ixT K) (pv 0) pe_int (fun _ _ => rfl)) pa_nil)))) (pw_or1 (pt_cmpR op_ne (pe_ix (ixT K) (pv 0) pe_int (fun _ _ => rfl)) (pe_ix (ixT K) (pv 1) pe_int (fun _ _ => rfl)) (nomark _))))))) (pss_cons (ps_ret pe_bl) pss_nil) pss_nil) (pss_cons (ps_if (PW.pt (pw_or (pt_not (pt_val (pe_callB (c_isi K) (by rfl) T.n_isinstance (by decide +kernel) (pa_cons (pe_ix (ixT K) (pv 0) pe_int (fun _ _ => rfl)) (pa_cons (pe_bltn (v := .ty "list") rfl T.n_list (by decide +kernel) rfl) pa_nil))))) (pw_or1 (pt_cmpR op_ne (pe_callB (c_len K) (by rfl) T.n_len PySem.boot_len (pa_cons (pe_ix (ixT K) (pv 0) pe_int (fun _ _ => rfl)) pa_nil)) (pe_callB (c_len K) (by rfl) T.n_len PySem.boot_len (pa_cons (pe_ix (ixT K) (pv 1) pe_int (fun _ _ => rfl)) pa_nil)) (nomark _))))) (pss_cons (ps_ret pe_bl) pss_nil) pss_nil) (pss_cons (ps_for (passes_of rfl) rfl (pi_range1 rfl T.n_range (pa_cons (pe_callB (c_len K) (by rfl) T.n_len PySem.boot_len (pa_cons (pe_ix (ixT K) (pv 1) pe_int (fun _ _ => rfl)) pa_nil)) pa_nil)) (pg_name (i := 2) sc_l_same_plan.nd rfl (.inl rfl)) (pss_cons (ps_set (i := 3) sc_l_same_plan.nd rfl (.inl rfl) (pe_ix (ixL K) (pe_ix (ixT K) (pv 0) pe_int (fun _ _ => rfl)) (pv 2) (fun _ _ => rfl))) (pss_cons (ps_if (PW.pt (pw_or (pt_not (pt_val (pe_callB (c_isi K) (by rfl) T.n_isinstance (by decide +kernel) (pa_cons (pv 3) (pa_cons (pe_bltn (v := .ty "tuple") rfl T.n_tuple (by decide +kernel) rfl) pa_nil))))) (pw_or (pt_cmpR op_ne (pe_callB (c_len K) (by rfl) T.n_len PySem.boot_len (pa_cons (pv 3) pa_nil)) pe_int (nomark _)) (pw_or (pt_not (pt_val (pe_callB (c_isi K) (by rfl) T.n_isinstance (by decide +kernel) (pa_cons (pe_ix (ixT K) (pv 3) pe_int (fun _ _ => rfl)) (pa_cons (pe_bltn (v := .ty "tuple") rfl T.n_tuple (by decide +kernel) rfl) pa_nil))))) (pw_or1 (pt_cmpR (o_neD K hr.units) (pv 3) (pe_ix (ixL K) (pe_ix (ixT K) (pv 1) pe_int (fun _ _ => rfl)) (pv 2) (fun _ _ => rfl)) (nomark _))))))) (pss_cons (ps_ret pe_bl) pss_nil) pss_nil) (pss_cons (ps_if (PW.pt (pw_or (pt_not (pt_val (pe_callB (c_isi K) (by rfl) T.n_isinstance (by decide +kernel) (pa_cons (pe_ix (ixT K) (pv 3) pe_int (fun _ _ => rfl)) (pa_cons (pe_bltn (v := .ty "str") rfl T.n_str (by decide +kernel) rfl) pa_nil))))) (pw_or (pt_not (pt_val (pe_cx c_l_whole hr (by decide) rfl (takes_of rfl rfl rfl rfl) (pa_cons (pe_ix (ixT K) (pv 3) pe_int (fun _ _ => rfl)) pa_nil)))) (pw_or1 (pt_not (pt_val (pe_callB (c_all K rfl) (by rfl) T.n_all (by decide +kernel) (pa_cons (pe_lc (own := [("_law_one", 4)]) (g := gName 4) (tt := tYes) rfl sc_l_same_plan.nd (pi_T K (pe_ix (ixT K) (pv 3) pe_int (fun _ _ => rfl))) (blkOk_by (own := [("_law_one", 4)]) (N := ["_law_found", "_law_due_here", "_law_k", "_law_gate", "_law_one"]) (sc := defScope s_l_same_plan) (by decide +kernel)) (fun _ _ _ _ _ => pg_name (i := 4) sc_l_same_plan.nd rfl (Or.inl rfl)) (fun _ _ _ _ _ => pts_nil) (fun _ _ _ _ _ => (pe_cx c_l_whole hr (by decide) rfl takes0 (pa_cons (pv 4) pa_nil)))) pa_nil)))))))) (pss_cons (ps_ret pe_bl) pss_nil) pss_nil) pss_nil)))) (pss_cons (ps_ret pe_bl) pss_nil)))), ?_⟩
    try dsimp only [cxOf, Cx.blk]
    refine Go.start (σ := [some (.ref a), some (.ref a'), none, none, none]) ?_
    have hwl := hR.1
    have hwl' := hR'.1
    have i0 : atI [V.int p.many, .ref g] 0 = some (.int p.many) := rfl
    have i1 : atI [V.int p.many, .ref g] 1 = some (.ref g) := rfl
    have i0' : atI [V.int p.many, .ref g'] 0 = some (.int p.many) := rfl
    have i1' : atI [V.int p.many, .ref g'] 1 = some (.ref g') := rfl
    have hle : ((ws.length : Nat) : Int) = (ws'.length : Int) := by rw [hwl, hwl']
    refine go_when (b := !true || (!decide ((([V.int p.many, .ref g] : List V).length : Int) = 2) || (!true || !decide (p.many = p.many)))) (et_or (et_not (et_B (ev_isi (ev_var rfl) ev_c (.ty _) (ty_tuple hP) (kit_ty (by decide +kernel))))) fun _ => et_or (et_test (ev_op (ev_lenT (ev_var rfl) hP) ev_c rv_neI)) fun _ => et_or (et_not (et_B (ev_callS (ea_cons (ev_op (ev_var rfl) ev_c (rv_ixT hP i0)) ea_nil) sv_whole))) fun _ => et_test (ev_op (ev_op (ev_var rfl) ev_c (rv_ixT hP i0)) (ev_op (ev_var rfl) ev_c (rv_ixT hP' i0')) rv_neI)) (fun h => ?_) (fun _ => ?_)
    · rw [decide_eq_true (show p.many = p.many from rfl)] at h; cases h
    refine go_when (b := !true || !decide ((ws.length : Int) = (ws'.length : Int))) (et_or (et_not (et_B (ev_isi (ev_op (ev_var rfl) ev_c (rv_ixT hP i1)) ev_c (.ty _) (ty_list hL) (kit_ty (by decide +kernel))))) fun _ => et_test (ev_op (ev_len (ev_op (ev_var rfl) ev_c (rv_ixT hP i1)) hL) (ev_len (ev_op (ev_var rfl) ev_c (rv_ixT hP' i1')) hL') rv_neI)) (fun h => ?_) (fun _ => ?_)
    · rw [decide_eq_true hle] at h; cases h
    refine go_forR1 H (n := (ws'.length : Int)) (ea_cons (ev_len (ev_op (ev_var rfl) ev_c (rv_ixT hP' i1')) hL') ea_nil) (by omega) (Ex.refl _) (fun k σ' G' => ∃ x y, σ' = [some (.ref a), some (.ref a'), x, y, none]) ⟨none, none, rfl⟩ ?_ ?_
    · rintro k σ' G' k0 k1 e ⟨x, y, rfl⟩
      obtain ⟨i, rfl⟩ : ∃ i : Nat, k = (i : Int) := ⟨k.toNat, by omega⟩
      have hi : i < p.gates.length := by omega
      have hg := List.getElem?_eq_getElem hi
      have hgm := List.getElem_mem hi
      have hs := hstr _ hgm
      have hz := hn2 _ hgm
      obtain ⟨w1, hw1, hG1⟩ := rows_get hR hg
      obtain ⟨w2, hw2, hG2⟩ := rows_get hR' hg
      generalize p.gates[i] = gt at *
      have hd1 := (hG1.mono e).dp
      have hd2 := (hG2.mono e).dp
      obtain ⟨ga, gs, rfl, hG, hS⟩ := hG1.mono e
      have j0 : atI [V.str gt.kind, .ref gs, .int gt.delay] 0 = some (.str gt.kind) := rfl
      have j1 : atI [V.str gt.kind, .ref gs, .int gt.delay] 1 = some (.ref gs) := rfl
      have j2 : atI [V.str gt.kind, .ref gs, .int gt.delay] 2 = some (.int gt.delay) := rfl
      refine go_asg (v := .ref ga) (ev_op (ev_op (ev_var rfl) ev_c (rv_ixT (ex_t e hP) i1)) (ev_var rfl) (rv_ixL (ex_l e hL) (at_list hw1))) ?_
      refine go_when (b := !true || (!decide ((([V.str gt.kind, .ref gs, .int gt.delay] : List V).length : Int) = 3) || (!true || false))) (et_or (et_not (et_B (ev_isi (ev_var rfl) ev_c (.ty _) (ty_tuple hG) (kit_ty (by decide +kernel))))) fun _ => et_or (et_test (ev_op (ev_lenT (ev_var rfl) hG) ev_c rv_neI)) fun _ => et_or (et_not (et_B (ev_isi (ev_op (ev_var rfl) ev_c (rv_ixT hG j1)) ev_c (.ty _) (ty_tuple hS) (kit_ty (by decide +kernel))))) fun _ => et_test (ev_op (ev_var rfl) (ev_op (ev_op (ev_var rfl) ev_c (rv_ixT (ex_t e hP') i1')) (ev_var rfl) (rv_ixL (ex_l e hL') (at_list hw2))) (rv_neD hd1 hd2 (gateD_shaped hs)))) (fun h => (by cases h)) (fun _ => ?_)
      refine go_when (b := !true || (!true || !(gt.srcs.map fun _ => true).all id)) (et_or (et_not (et_B (ev_isi (ev_op (ev_var rfl) ev_c (rv_ixT hG j0)) ev_c (.ty _) (.base (.str _)) (kit_ty (by decide +kernel))))) fun _ => et_or (et_not (et_B (ev_callS (ea_cons (ev_op (ev_var rfl) ev_c (rv_ixT hG j2)) ea_nil) sv_whole))) fun _ => et_not (et_B (ev_allN ?_))) (fun h => ?_) (fun _ => ?_)
      · rw [List.map_map]
        exact el_lcTA gt.srcs V.int _ (ev_op (ev_var rfl) ev_c (rv_ixT hG j1)) hS (by omega) (fun _ => rfl) fun s hs => ev_callS (ea_cons (ev_var rfl) ea_nil) sv_whole
      · have : (gt.srcs.map fun _ => true).all id = true := by
          rw [List.all_eq_true]
          intro b hb
          obtain ⟨_, _, rfl⟩ := List.mem_map.mp hb
          rfl
        rw [this] at h; cases h
      exact go_kb e ⟨_, _, rfl⟩
    · rintro σ' G' e ⟨x, y, rfl⟩
      exact go_ret ev_c fun H1 e1 => q H1 (e.trans e1)

end

section
variable {P : Program} {w : World} {K : PySem.W.Frag} {mg : Str → Option Value} {base : Heap} {A : Ads}
def sp_l_judged (K : PySem.W.Frag) (A : Ads) : Sp := fun vs H Q E => ∃ z, vs = [.str z] ∧ z.length ≤ 30000 ∧ RetV (.bl true) H Q
theorem sv_judged {K : PySem.W.Frag} {A : Ads} {G : Hp} {z : Str} (h : z.length ≤ 30000) : SpV (sp_l_judged K A) [.str z] G (.bl true) := fun _ _ _ q _ => ⟨z, rfl, h, q⟩
theorem read_parse {z : Str} {p : Plan} (h : readR z = .ok p) : parseM z = some p ∧ Valid p := by
  unfold readR at h
  cases hp : parseM z with
  | none => rw [hp] at h; cases h
  | some p' =>
    rw [hp] at h
    have h : orErr (errPlan p') p' = .ok p := h
    cases he : errPlan p' with
    | some e => rw [he] at h; cases h
    | none => rw [he] at h; cases h; exact ⟨rfl, valid_iff.mp he⟩
theorem sg_read {K : PySem.W.Frag} {A : Ads} {G : Hp} {z : Str} {p : Plan} (h : z.length ≤ 30000) (hr : readR z = .ok p) : SpG (sp_read K A) [.str z] G fun v G' => PlanAt K G' v p :=
  (spg_out (A := A) (R := fun _ v H' p => PlanAt K H' v p) (r := readR z) (a := p) (fun H1 e1 Q1 E1 o1 => ⟨z, rfl, h, o1⟩) hr).imp fun v G' _ ⟨_, _, _, r⟩ => r
theorem ok_l_judged {f : Addr} {fd : FuncData} (F : Fun K "_law_judged" "_law_judged" s_l_judged f fd) (T : Txt K w mg A) (c_l_due : CalX P w K mg base 4 "_law_due" (sp_l_due K A)) (c_l_refused : CalX P w K mg base 5 "_law_refused" (sp_l_refused K A)) (c_read : CalX P w K mg base 4 "read" (sp_read K A)) (c_l_parsed : CalX P w K mg base 3 "_law_parsed" (sp_l_parsed K A)) (c_l_same_plan : CalX P w K mg base 2 "_law_same_plan" (sp_l_same_plan K A)) : FnOk P w K mg base (L2.CX P w) 6 f fd ["_law_told"] (sp_l_judged K A) := by
  refine F.okX sc_l_judged (fun vs H Q E h => ?_) (fun cdv A_ outer s H vs Q E hr h => ?_)
  · obtain ⟨z, rfl, _⟩ := h; rfl
  · obtain ⟨z, rfl, hz, q⟩ := h
    refine ⟨_, (pss_cons (ps_set (i := 1) sc_l_judged.nd rfl (.inl rfl) (pe_cx c_l_due hr (by decide) rfl (takes_of rfl rfl rfl rfl) (pa_cons (pv 0) pa_nil))) (pss_cons (ps_if (pt_cmpR op_ne (pv 1) pe_str (nomark _)) (pss_cons (ps_ret (pe_cx c_l_refused hr (by decide) rfl (takes_of rfl rfl rfl rfl) (pa_cons (pv 0) (pa_cons (pv 1) pa_nil)))) pss_nil) pss_nil) (pss_cons (ps_ret (pe_cx c_l_same_plan hr (by decide) rfl (takes_of rfl rfl rfl rfl) (pa_cons (pe_cx c_read hr (by decide) rfl (takes_of rfl rfl rfl rfl) (pa_cons (pv 0) pa_nil)) (pa_cons (pe_cx c_l_parsed hr (by decide) rfl (takes_of rfl rfl rfl rfl) (pa_cons (pv 0) pa_nil)) pa_nil)))) pss_nil))), ?_⟩
    try dsimp only [cxOf, Cx.blk]
    refine Go.start (σ := [some (.str z), none]) ?_
    refine go_asg (v := .str (dueW z)) (ev_callS (ea_cons (ev_var rfl) ea_nil) (sv_due hz)) ?_
    cases hr : readR z with
    | error e =>
      have hd : dueW z = errWord e := by unfold dueW; rw [hr]
      rw [hd]
      have hn : ¬ errWord e = "" := by cases e <;> decide +kernel
      refine go_when (b := true) (et_is (et_test (ev_op (ev_var rfl) ev_c rv_neS)) (by rw [decide_eq_false hn]; rfl)) (fun _ => ?_) (fun h => by cases h)
      exact go_ret (ev_callS (ea_cons (ev_var rfl) (ea_cons (ev_var rfl) ea_nil)) (sv_refused hz hr)) fun H1 e1 => q H1 e1
    | ok p =>
      have hd : dueW z = "" := by unfold dueW; rw [hr]
      rw [hd]
      obtain ⟨hp, hv⟩ := read_parse hr
      refine go_when (b := false) (et_is (et_test (ev_op (ev_var rfl) ev_c rv_neS)) (by rw [decide_eq_true rfl]; rfl)) (fun h => by cases h) (fun _ => ?_)
      refine go_ret (ev_callP (A := fun vs G' => ∃ v w, vs = [v, w] ∧ PlanAt K G' v p ∧ PlanAt K G' w p) ((eap_cons (R := fun v vs G' => ∃ w, vs = [w] ∧ PlanAt K G' w p) (ep_call (ea_cons (ev_var rfl) ea_nil) (sg_read hz hr)) fun v G' e _ => (eap_p (ep_call (ea_cons (ev_var rfl) ea_nil) (sg_parsed hz)) fun v' G' _ _ => ea_nil).imp fun vs G'' _ hv => ?_).imp fun vs G' _ hv => ?_) fun vs G' _ hv => ?_) fun H1 e1 => q H1 e1
      · obtain ⟨w, rfl, hw⟩ := hv
        rw [hp] at hw
        exact ⟨w, rfl, hw⟩
      · obtain ⟨v, vs', G1', rfl, _, e1', hpl, w, rfl, hw⟩ := hv
        exact ⟨v, w, rfl, hpl.mono e1', hw⟩
      · obtain ⟨v, w, rfl, h1, h2⟩ := hv
        exact sv_same_plan h1 h2 (valid_str hv) (by have := hv.n200; omega) (fun g hg => by have := gate_short (hv.gate g hg); omega)

end

section
variable {P : Program} {w : World} {K : PySem.W.Frag} {mg : Str → Option Value} {base : Heap} {A : Ads}
def signsA : Str := " !\"#$&'()*+,-./0123456789:;<=>?@ABCDEFGHIJKLMNOPQRSTUVWXYZ[\\]^_`"
def signsB : Str := "abcdefghijklmnopqrstuvwxyz{|}~\n\t"
theorem signs_at {k : Nat} (h : k < 96) : ∃ ch, (signsA ++ signsB : Str).cps.toList[k]? = some ch := by
  have : (signsA ++ signsB : Str).cps.toList.length = 96 := by decide +kernel
  exact ⟨_, List.getElem?_eq_getElem (by omega)⟩
def signAt (c : Int) : Nat := (signsA ++ signsB : Str).cps.toList.getD (c % 96).toNat 0
def sp_l_sign_by (K : PySem.W.Frag) (A : Ads) : Sp := fun vs H Q E => ∃ c : Int, vs = [.int c] ∧ RetV (.str ⟨#[signAt c]⟩) H Q
theorem sv_sign_by {K : PySem.W.Frag} {A : Ads} {G : Hp} {c : Int} : SpV (sp_l_sign_by K A) [.int c] G (.str ⟨#[signAt c]⟩) := fun _ _ _ q _ => ⟨c, rfl, q⟩
theorem ok_l_sign_by {f : Addr} {fd : FuncData} (F : Fun K "_law_sign_by" "_law_sign_by" s_l_sign_by f fd) (T : Txt K w mg A)  : FnOk P w K mg base (L2.CX P w) 1 f fd ["_law_cell"] (sp_l_sign_by K A) := by
  refine F.okX sc_l_sign_by (fun vs H Q E h => ?_) (fun cdv A_ outer s H vs Q E hr h => ?_)
  · obtain ⟨c, rfl, _⟩ := h; rfl
  · obtain ⟨c, rfl, q⟩ := h
    refine ⟨_, (pss_cons (ps_set (i := 1) sc_l_sign_by.nd rfl (.inl rfl) pe_str) (pss_cons (ps_set (i := 1) sc_l_sign_by.nd rfl (.inl rfl) (pe_op op_addZ (pv 1) pe_str)) (pss_cons (ps_ret (pe_ix ix_str (pv 1) (pe_op op_mod (pv 0) pe_int) (fun _ _ => rfl))) pss_nil))), ?_⟩
    try dsimp only [cxOf, Cx.blk]
    refine Go.start (σ := [some (.int c), none]) ?_
    have c0 : 0 ≤ c % 96 ∧ c % 96 < 96 := by omega
    obtain ⟨k, hk⟩ : ∃ k : Nat, c % 96 = (k : Int) := ⟨(c % 96).toNat, by omega⟩
    obtain ⟨ch, hch⟩ := signs_at (k := k) (by omega)
    have hl : (signsA ++ signsB : Str).length ≤ 1000 := by decide +kernel
    have hla : signsA.length + signsB.length ≤ 100000 := by decide +kernel
    refine go_asg (v := .str signsA) ev_c ?_
    refine go_asg (v := .str (signsA ++ signsB)) (ev_addZ (ev_var rfl) (ev_c (v := .str signsB)) hla) ?_
    have hi : Ev (tOp (rI (fun _ j => 0 < j) fun i j => .int (i % j)) (tVar 0) (tC (.int 96))) [some (.int c), some (.str (signsA ++ signsB))] H (.int (k : Int)) := by
      rw [← hk]; exact ev_op (ev_var rfl) ev_c (rv_I (by decide))
    have hsa : signAt c = ch := by
      unfold signAt
      rw [hk, Int.toNat_natCast, List.getD_eq_getElem?_getD, hch]; rfl
    rw [hsa] at q
    exact go_ret (ev_op (ev_var rfl) hi (rv_ixS (by omega) (atI_nat hch))) fun H1 e1 => q H1 e1

end

section
variable {P : Program} {w : World} {K : PySem.W.Frag} {mg : Str → Option Value} {base : Heap} {A : Ads}
def sp_written (K : PySem.W.Frag) (A : Ads) : Sp := fun vs H Q E => ∃ v p, vs = [v] ∧ PlanAt K H v p ∧ Valid p ∧ RetV (.str (Txt.join "\n" (rowsOf p))) H Q
theorem sv_written {K : PySem.W.Frag} {A : Ads} {G : Hp} {v : V} {p : Plan} (h : PlanAt K G v p) (hv : Valid p) : SpV (sp_written K A) [v] G (.str (Txt.join "\n" (rowsOf p))) := fun _ e _ q _ => ⟨v, p, rfl, h.mono e, hv, q⟩
theorem ok_written {f : Addr} {fd : FuncData} (F : Fun K "written" "written" s_written f fd) (T : Txt K w mg A) (c_checked : CalX P w K mg base 3 "checked" (sp_checked K A)) : FnOk P w K mg base (L2.CX P w) 4 f fd ["plan"] (sp_written K A) := by
  refine F.okX sc_written (fun vs H Q E h => ?_) (fun cdv A_ outer s H vs Q E hr h => ?_)
  · obtain ⟨v, p, rfl, _⟩ := h; rfl
  · obtain ⟨v, p, rfl, hPl, hv, q⟩ := h
    refine ⟨_, (pss_cons (ps_expr (pe_cx c_checked hr (by decide) rfl (takes_of rfl rfl rfl rfl) (pa_cons (pv 0) pa_nil))) (pss_cons (ps_set (i := 1) sc_written.nd rfl (.inl rfl) (pe_lst (pa_cons (pe_op op_addZ pe_str (pe_callTy call_strI (by rfl) T.n_str (by decide +kernel) (pa_cons (pe_ix (ixT K) (pv 0) pe_int (fun _ _ => rfl)) pa_nil))) pa_nil))) (pss_cons (ps_for (passes_of rfl) rfl (pi_L K (pe_ix (ixT K) (pv 0) pe_int (fun _ _ => rfl))) (pg_name (i := 2) sc_written.nd rfl (.inl rfl)) (pss_cons (ps_set (i := 3) sc_written.nd rfl (.inl rfl) (pe_op op_cat (pe_op op_cat (pe_lst (pa_cons (pe_ix (ixT K) (pv 2) pe_int (fun _ _ => rfl)) pa_nil)) (pe_lc (own := [("source", 4)]) (g := gName 4) (tt := tYes) rfl sc_written.nd (pi_T K (pe_ix (ixT K) (pv 2) pe_int (fun _ _ => rfl))) (blkOk_by (own := [("source", 4)]) (N := ["plan", "rows", "gate", "words", "source"]) (sc := defScope s_written) (by decide +kernel)) (fun _ _ _ _ _ => pg_name (i := 4) sc_written.nd rfl (Or.inl rfl)) (fun _ _ _ _ _ => pts_nil) (fun _ _ _ _ _ => (pe_callTy call_strI (by rfl) T.n_str (by decide +kernel) (pa_cons (pv 4) pa_nil))))) (pe_lst (pa_cons pe_str (pa_cons (pe_callTy call_strI (by rfl) T.n_str (by decide +kernel) (pa_cons (pe_ix (ixT K) (pv 2) pe_int (fun _ _ => rfl)) pa_nil)) pa_nil))))) (pss_cons (ps_expr (pe_bm PySem.F.plainAttrs_list PySem.F.slot_list_append PySem.F.type_list_append mt_append (pv 1) (pa_cons (pe_joinK K pe_str (pv 3)) pa_nil))) pss_nil))) (pss_cons (ps_ret (pe_joinK K pe_str (pv 1))) pss_nil)))), ?_⟩
    try dsimp only [cxOf, Cx.blk]
    refine Go.start (σ := [some v, none, none, none, none]) ?_
    refine go_drop (ev_callS (ea_cons (ev_var rfl) ea_nil) (sv_checked hPl hv)) ?_
    obtain ⟨pa, g, rfl, hP, ws, hL, hR⟩ := hPl
    have m0 := hv.m0
    have m60 := hv.m60
    have n200 := hv.n200
    have i0 : atI [V.int p.many, .ref g] 0 = some (.int p.many) := rfl
    have i1 : atI [V.int p.many, .ref g] 1 = some (.ref g) := rfl
    have hml := numT_len (n := p.many) m0 (by omega)
    have hin3 : ("in " : Str).length = 3 := by decide +kernel
    refine go_asgL (xs := ([("in " : Str) ++ numT p.many]).map V.str) (el_lst (ea_cons (ev_addZ ev_c (ev_strI (ev_op (ev_var rfl) ev_c (rv_ixT hP i0)) (by omega)) (by omega)) ea_nil) (by show 1 ≤ 100000; decide)) fun pr hpr => ?_
    have e1 : Ex H (upd H pr (.lst (([("in " : Str) ++ numT p.many]).map V.str))) := Ex.new hpr
    refine go_forL H (a := g) (ev_op (ev_var rfl) ev_c (rv_ixT (ex_t e1 hP) i1)) e1 hL (fun i σ' G' => ∃ y z, σ' = [some (.ref pa), some (.ref pr), y, z, none] ∧ G' pr = some (.lst (((("in " : Str) ++ numT p.many) :: (p.gates.take i).map rowG).map V.str))) ⟨none, none, rfl, upd_same⟩ ?_ ?_
    · rintro i w σ' G' hx e ⟨y, z, rfl, hd⟩
      obtain ⟨gt, hg, hGA⟩ := rows_get' hR hx
      have hgm := List.mem_of_getElem? hg
      obtain ⟨ga, gs, rfl, hG, hS⟩ := hGA.mono e
      have ho := valid_rows hv gt hgm
      have hz := gate_short (hv.gate gt hgm)
      have j0 : atI [V.str gt.kind, .ref gs, .int gt.delay] 0 = some (.str gt.kind) := rfl
      have j1 : atI [V.str gt.kind, .ref gs, .int gt.delay] 1 = some (.ref gs) := rfl
      have j2 : atI [V.str gt.kind, .ref gs, .int gt.delay] 2 = some (.int gt.delay) := rfl
      have hi : i < p.gates.length := (List.getElem?_eq_some_iff.mp hg).1
      have hdl := ho.delay
      have hk6 : gt.kind.length ≤ 6 := by
        obtain ⟨⟨lo, hi, hw, _⟩, _⟩ := gate_ok (hv.gate gt hgm)
        unfold wantsM at hw
        cases e : least gt.kind with
        | none => rw [e] at hw; cases hw
        | some i => exact (kinds9_lets e).2.2
      have el := el_lcTA (K := K) (te := tCB rStrI (tCons (tVar 4) tNil)) (tl := tOp (rIxT K) (tVar 2) (tC (.int 1))) (σ := [some (.ref pa), some (.ref pr), some (.ref ga), z, none]) (G := G') (j := 4) (vs := [4]) gt.srcs V.int (fun s => .str (numT s)) (ev_op (ev_var rfl) ev_c (rv_ixT hG j1)) hS (by omega) (fun _ => rfl) (fun s hs => ev_strI (ev_var rfl) (by have := ho.srcs s hs; omega))
      refine go_asgL (xs := (wordsG gt).map V.str) (by
        have := el_catN (el_catN (el_lst (vs := [V.str gt.kind]) (ea_cons (ev_op (ev_var (i := 2) (σ := [some (.ref pa), some (.ref pr), some (.ref ga), z, none]) rfl) ev_c (rv_ixT hG j0)) ea_nil) (by show 1 ≤ 100000; decide)) el (by rw [List.length_map]; show 1 + _ ≤ 100000; omega)) (el_lst (vs := [V.str "by", V.str (numT gt.delay)]) (ea_cons ev_c (ea_cons (ev_strI (ev_op (ev_var (i := 2) rfl) ev_c (rv_ixT hG j2)) (by omega)) ea_nil)) (by show 2 ≤ 100000; decide)) (by rw [List.length_append, List.length_map]; show 1 + _ + 2 ≤ 100000; omega)
        have hw : (wordsG gt).map V.str = [V.str gt.kind] ++ gt.srcs.map (fun s => V.str (numT s)) ++ [V.str "by", V.str (numT gt.delay)] := by unfold wordsG; simp
        rw [hw]
        exact this) fun pw hpw => ?_
      have e2 : Ex G' (upd G' pw (.lst ((wordsG gt).map V.str))) := Ex.new hpw
      have hws : ∀ y ∈ wordsG gt, y.length ≤ 9 := fun y hy => by
        unfold wordsG at hy
        rcases List.mem_append.mp hy with hy | hy
        · rcases List.mem_append.mp hy with hy | hy
          · rw [List.mem_singleton.mp hy]; omega
          · obtain ⟨s, hs, rfl⟩ := List.mem_map.mp hy
            exact numT_len (ho.srcs s hs).1 (ho.srcs s hs).2
        · rcases List.mem_cons.mp hy with rfl | hy
          · decide +kernel
          · rw [List.mem_singleton.mp hy]; exact numT_len hdl.1 hdl.2
      have hwl : (wordsG gt).length ≤ 12 := by unfold wordsG; simp; omega
      have hsum := sum_le hws
      have h1 : (" " : Str).length = 1 := by decide +kernel
      refine go_app (v := .str (rowG gt)) (ev_var rfl) (e2 _ _ hd) (ev_join (K := K) (a := " ") (ys := wordsG gt) ev_c (ev_var rfl) (sq_of upd_same) (by rw [h1]; omega)) (by rw [List.length_map, List.length_cons, List.length_map, List.length_take]; omega) ?_
      refine go_kb (Ex.mut (e.trans e2) hpr) ⟨_, _, rfl, ?_⟩
      rw [upd_same, List.take_add_one, hg]
      simp
    · rintro σ' G' e ⟨y, z, rfl, hd⟩
      rw [hR.1, List.take_length] at hd
      have hsum := sum_le (rows_short hv)
      have hn : (rowsOf p).length ≤ 201 := by unfold rowsOf; simp; omega
      have h1 : ("\n" : Str).length = 1 := by decide +kernel
      exact go_ret (ev_join (K := K) (a := "\n") (ys := rowsOf p) ev_c (ev_var rfl) (sq_of hd) (by rw [h1]; omega)) fun H1 e1 => q H1 (e.trans e1)

end

section
variable {P : Program} {w : World} {K : PySem.W.Frag} {mg : Str → Option Value} {base : Heap} {A : Ads}
def sp_law (K : PySem.W.Frag) (A : Ads) : Sp := fun vs H Q E => ∃ (a : Addr) (ns : List Int), vs = [.ref a] ∧ SqL K H a (ns.map V.int) ∧ ns.length ≤ 63 ∧ ∀ H', Q (.bl true) H'
theorem told_pos {p : Plan} (v : Valid p) : 0 < (Txt.join "\n" (rowsOf p)).length := by
  have hp := parse_rows v
  rcases Nat.eq_zero_or_pos (Txt.join "\n" (rowsOf p)).length with h | h
  · exfalso
    have hl : (Txt.join "\n" (rowsOf p)).length = (Txt.join "\n" (rowsOf p)).cps.toList.length := TL.len_tl _
    have he : Txt.join "\n" (rowsOf p) = "" := str_empty.mpr (List.eq_nil_of_length_eq_zero (by omega))
    rw [he] at hp
    have hn : parseM "" = none := by
      have : (parseM "").isNone = true := by decide +kernel
      exact Option.isNone_iff_eq_none.mp this
    rw [hn] at hp; cases hp
  · exact h
theorem ok_law {f : Addr} {fd : FuncData} (F : Fun K "law" "law" s_law f fd) (T : Txt K w mg A) (c_l_plan_by : CalX P w K mg base 4 "_law_plan_by" (sp_l_plan_by K A)) (c_l_text_of : CalX P w K mg base 1 "_law_text_of" (sp_l_text_of K A)) (c_l_cell_at : CalX P w K mg base 1 "_law_cell_at" (sp_l_cell_at K A)) (c_l_mixed : CalX P w K mg base 1 "_law_mixed" (sp_l_mixed K A)) (c_l_odd_head : CalX P w K mg base 1 "_law_odd_head" (sp_l_odd_head K A)) (c_l_refused : CalX P w K mg base 5 "_law_refused" (sp_l_refused K A)) (c_l_odd_row : CalX P w K mg base 1 "_law_odd_row" (sp_l_odd_row K A)) (c_l_wrong_row : CalX P w K mg base 1 "_law_wrong_row" (sp_l_wrong_row K A)) (c_l_judged : CalX P w K mg base 6 "_law_judged" (sp_l_judged K A)) (c_l_sign_by : CalX P w K mg base 1 "_law_sign_by" (sp_l_sign_by K A)) (c_written : CalX P w K mg base 4 "written" (sp_written K A)) (c_read : CalX P w K mg base 4 "read" (sp_read K A)) (c_l_same_plan : CalX P w K mg base 2 "_law_same_plan" (sp_l_same_plan K A)) : FnOk P w K mg base (L2.CX P w) 7 f fd ["_law_script"] (sp_law K A) := by
  refine F.okX sc_law (fun vs H Q E h => ?_) (fun cdv A_ outer s H vs Q E hr h => ?_)
  · obtain ⟨a, ns, rfl, _⟩ := h; rfl
  · obtain ⟨a, ns, rfl, hS, hlen, q⟩ := h
    refine ⟨_, (pss_cons (ps_set (i := 1) sc_law.nd rfl (.inl rfl) (pe_cx c_l_plan_by hr (by decide) rfl (takes_of rfl rfl rfl rfl) (pa_cons (pv 0) (pa_cons pe_int pa_nil)))) (pss_cons (ps_set (i := 2) sc_law.nd rfl (.inl rfl) (pe_cx c_l_text_of hr (by decide) rfl (takes_of rfl rfl rfl rfl) (pa_cons (pv 1) pa_nil))) (pss_cons (ps_set (i := 3) sc_law.nd rfl (.inl rfl) (pe_cx c_l_cell_at hr (by decide) rfl (takes_of rfl rfl rfl rfl) (pa_cons (pv 0) (pa_cons pe_int pa_nil)))) (pss_cons (ps_set (i := 4) sc_law.nd rfl (.inl rfl) (pe_op op_add pe_int (pe_cx c_l_mixed hr (by decide) rfl (takes_of rfl rfl rfl rfl) (pa_cons (pv 3) (pa_cons pe_int (pa_cons (pe_callB (c_len K) (by rfl) T.n_len PySem.boot_len (pa_cons (pv 2) pa_nil)) pa_nil)))))) (pss_cons (ps_set (i := 5) sc_law.nd rfl (.inl rfl) (pe_op op_mod (pv 3) pe_int)) (pss_cons (ps_if (pt_cmpR op_eq (pv 5) pe_int (nomark _)) (pss_cons (ps_ret (pe_cx c_l_refused hr (by decide) rfl (takes_of rfl rfl rfl rfl) (pa_cons (pe_joinK K pe_str (pe_op op_cat (pe_lst (pa_cons (pe_cx c_l_odd_head hr (by decide) rfl (takes_of rfl rfl rfl rfl) (pa_cons (pe_op op_fdiv (pv 3) pe_int) pa_nil)) pa_nil)) (pe_slice (slL K) (pv 2) (po_some pe_int) po_none))) (pa_cons pe_str pa_nil)))) pss_nil) pss_nil) (pss_cons (ps_if (pt_cmpR op_eq (pv 5) pe_int (nomark _)) (pss_cons (ps_ret (pe_cx c_l_refused hr (by decide) rfl (takes_of rfl rfl rfl rfl) (pa_cons (pe_joinK K pe_str (pe_op op_cat (pe_op op_cat (pe_slice (slL K) (pv 2) po_none (po_some (pv 4))) (pe_lst (pa_cons (pe_cx c_l_odd_row hr (by decide) rfl (takes_of rfl rfl rfl rfl) (pa_cons (pe_op op_fdiv (pv 3) pe_int) pa_nil)) pa_nil))) (pe_slice (slL K) (pv 2) (po_some (pv 4)) po_none))) (pa_cons pe_str pa_nil)))) pss_nil) pss_nil) (pss_cons (ps_if (pt_cmpR op_eq (pv 5) pe_int (nomark _)) (pss_cons (ps_ret (pe_cx c_l_refused hr (by decide) rfl (takes_of rfl rfl rfl rfl) (pa_cons (pe_op op_addZ (pe_joinK K pe_str (pv 2)) pe_str) (pa_cons pe_str pa_nil)))) pss_nil) pss_nil) (pss_cons (ps_if (pt_cmpR op_eq (pv 5) pe_int (nomark _)) (pss_cons (ps_set (i := 6) sc_law.nd rfl (.inl rfl) (pe_cx c_l_wrong_row hr (by decide) rfl (takes_of rfl rfl rfl rfl) (pa_cons (pe_op op_fdiv (pv 3) pe_int) pa_nil))) (pss_cons (ps_set (i := 7) sc_law.nd rfl (.inl rfl) (pe_ix (ixT K) (pv 6) pe_int (fun _ _ => rfl))) (pss_cons (ps_set (i := 2) sc_law.nd rfl (.inl rfl) (pe_op op_cat (pe_op op_cat (pe_slice (slL K) (pv 2) po_none (po_some (pv 4))) (pe_lst (pa_cons (pe_ix (ixT K) (pv 6) pe_int (fun _ _ => rfl)) pa_nil))) (pe_slice (slL K) (pv 2) (po_some (pv 4)) po_none))) (pss_cut (ps_if (pt_cmpR op_eq (pe_op op_mod (pe_op op_fdiv (pv 3) pe_int) pe_int) pe_int (nomark _)) (pss_cons (ps_asg pe_str (pg_sub (pv 2) pe_int set_list)) pss_nil) pss_nil) (pss_cut (ps_if (PW.pt (pw_or (pt_cmpR op_gt (pe_callB (c_len K) (by rfl) T.n_len PySem.boot_len (pa_cons (pv 2) pa_nil)) pe_int (nomark _)) (pw_or1 (pt_cmpR op_eq (pe_ix (ixL K) (pv 2) pe_int (fun _ _ => rfl)) pe_str (nomark _))))) (pss_cons (ps_set (i := 7) sc_law.nd rfl (.inl rfl) pe_str) pss_nil) pss_nil) (pss_cons (ps_if (pt_cmpR op_eq (pe_op op_mod (pe_op op_fdiv (pv 3) pe_int) pe_int) pe_int (nomark _)) (pss_cons (ps_ret (pe_cx c_l_refused hr (by decide) rfl (takes_of rfl rfl rfl rfl) (pa_cons (pe_joinK K pe_str (pe_op op_cat (pv 2) (pe_lst (pa_cons (pe_cx c_l_odd_row hr (by decide) rfl (takes_of rfl rfl rfl rfl) (pa_cons (pe_op op_fdiv (pv 3) pe_int) pa_nil)) pa_nil)))) (pa_cons pe_str pa_nil)))) pss_nil) pss_nil) (pss_cons (ps_ret (pe_cx c_l_refused hr (by decide) rfl (takes_of rfl rfl rfl rfl) (pa_cons (pe_joinK K pe_str (pv 2)) (pa_cons (pv 7) pa_nil)))) pss_nil))))))) pss_nil) (pss_cons (ps_if (pt_cmpR op_eq (pv 5) pe_int (nomark _)) (pss_cons (ps_set (i := 8) sc_law.nd rfl (.inl rfl) (pe_joinK K pe_str (pv 2))) (pss_cons (ps_set (i := 9) sc_law.nd rfl (.inl rfl) (pe_cx c_l_mixed hr (by decide) rfl (takes_of rfl rfl rfl rfl) (pa_cons (pv 3) (pa_cons pe_int (pa_cons (pe_callB call_lenZ (by rfl) T.n_len PySem.boot_len (pa_cons (pv 8) pa_nil)) pa_nil))))) (pss_cons (ps_if (pt_cmpR op_eq (pe_op op_mod (pe_op op_fdiv (pv 3) pe_int) pe_int) pe_int (nomark _)) (pss_cons (ps_ret (pe_cx c_l_judged hr (by decide) rfl (takes_of rfl rfl rfl rfl) (pa_cons (pe_op op_addZ (pe_slice C8.sl_txt (pv 8) po_none (po_some (pv 9))) (pe_slice C8.sl_txt (pv 8) (po_some (pe_op op_add (pv 9) pe_int)) po_none)) pa_nil))) pss_nil) pss_nil) (pss_cons (ps_set (i := 8) sc_law.nd rfl (.inl rfl) (pe_op op_addZ (pe_op op_addZ (pe_slice C8.sl_txt (pv 8) po_none (po_some (pv 9))) (pe_cx c_l_sign_by hr (by decide) rfl (takes_of rfl rfl rfl rfl) (pa_cons (pe_op op_fdiv (pv 3) pe_int) pa_nil))) (pe_slice C8.sl_txt (pv 8) (po_some (pe_op op_add (pv 9) (pe_op op_mod (pe_op op_fdiv (pv 3) pe_int) pe_int))) po_none))) (pss_cons (ps_ret (pe_cx c_l_judged hr (by decide) rfl (takes_of rfl rfl rfl rfl) (pa_cons (pv 8) pa_nil))) pss_nil))))) pss_nil) (pss_cons (ps_set (i := 10) sc_law.nd rfl (.inl rfl) (pe_tup (pa_cons (pe_ix (ixT K) (pv 1) pe_int (fun _ _ => rfl)) (pa_cons (pe_callTy (c_list K) (by rfl) T.n_list (by decide +kernel) (pa_cons (pe_ix (ixT K) (pv 1) pe_int (fun _ _ => rfl)) pa_nil)) pa_nil)))) (pss_cons (ps_set (i := 11) sc_law.nd rfl (.inl rfl) (pe_cx c_written hr (by decide) rfl (takes_of rfl rfl rfl rfl) (pa_cons (pv 10) pa_nil))) (pss_cons (ps_if (PW.pt (pw_or (pt_not (pt_val (pe_callB (c_isi K) (by rfl) T.n_isinstance (by decide +kernel) (pa_cons (pv 11) (pa_cons (pe_bltn (v := .ty "str") rfl T.n_str (by decide +kernel) rfl) pa_nil))))) (pw_or (pt_cmpR op_ne (pv 11) (pe_joinK K pe_str (pv 2)) (nomark _)) (pw_or1 (pt_cmpR (o_neD K hr.units) (pv 10) (pv 1) (nomark _)))))) (pss_cons (ps_ret pe_bl) pss_nil) pss_nil) (pss_cons (ps_ret (pe_cx c_l_same_plan hr (by decide) rfl (takes_of rfl rfl rfl rfl) (pa_cons (pe_cx c_read hr (by decide) rfl (takes_of rfl rfl rfl rfl) (pa_cons (pe_joinK K pe_str (pv 2)) pa_nil)) (pa_cons (pv 1) pa_nil)))) pss_nil)))))))))))))), ?_⟩
    try dsimp only [cxOf, Cx.blk]
    refine Go.start (σ := [some (.ref a), none, none, none, none, none, none, none, none, none, none, none]) ?_
    obtain ⟨hv, hstr⟩ := planBy_ok (ns := ns) (most := 60) hlen (by decide) (by decide)
    refine go_asgP (ep_call (vs := [.ref a, .int 60]) (ea_cons (ev_var rfl) (ea_cons ev_c ea_nil)) (sg_plan_by hS hlen (by decide) (by decide))) fun v G1 e1 hp => ?_
    generalize planBy ns 60 = p at *
    have hS1 := ex_l e1 hS
    refine go_asgL (el_callS (ea_cons (ev_var rfl) ea_nil) (sl_text_of hp hv)) fun pr hpr => ?_
    have e2 : Ex G1 (upd G1 pr (.lst ((rowsOf p).map V.str))) := Ex.new hpr
    have hr2 : (upd G1 pr (.lst ((rowsOf p).map V.str))) pr = some (.lst ((rowsOf p).map V.str)) := upd_same
    generalize upd G1 pr (.lst ((rowsOf p).map V.str)) = G2 at e2 hr2
    have hrS := sq_of (K := K) hr2
    have hp2 := hp.mono e2
    refine go_asg (v := .int (cell ns 2)) (ev_callS (ea_cons (ev_var rfl) (ea_cons ev_c ea_nil)) (sv_cell_at (ex_l e2 hS1) (by decide))) ?_
    generalize cell ns 2 = c
    have hrl := rowsOf_len (p := p)
    have n200 := hv.n200
    have hsh := rows_short hv
    have hone := rows_one hv
    have mx := mixed_in (c := c) (k := 8) (m := (((rowsOf p).map V.str).length : Int)) (by rw [List.length_map]; omega)
    obtain ⟨n, hn⟩ : ∃ n : Nat, mixed c 8 (((rowsOf p).map V.str).length : Int) = (n : Int) := ⟨(mixed c 8 (((rowsOf p).map V.str).length : Int)).toNat, by omega⟩
    have hng : n ≤ p.gates.length := by rw [hn, List.length_map] at mx; omega
    refine go_asg (v := .int ((n + 1 : Nat) : Int)) (ev_is (ev_op ev_c (ev_callS (ea_cons (ev_var rfl) (ea_cons ev_c (ea_cons (ev_len (ev_var rfl) hrS) ea_nil))) (sv_mixed (by rw [List.length_map]; omega))) rv_I0) (by rw [hn]; congr 1; omega)) ?_
    clear mx hn
    refine go_asg (v := .int (c % 7)) (ev_op (ev_var rfl) ev_c (rv_I (by decide))) ?_
    have sl : ∀ {σ : L2.St} {G : Hp} {tb : TE} {k : Nat}, σ[2]? = some (some (.ref pr)) → Ex G2 G → Ev tb σ G (.int (k : Int)) → EvL (tSl (rSlL K) (tVar 2) (tPart tb) tNoPart) σ G (((rowsOf p).drop k).map V.str) := fun {σ G tb k} h e hk => by
      have := el_sl (K := K) (te := tVar 2) (tl := tPart tb) (th := tNoPart) (ev_var h) (eo_some hk) eo_none (ex_l e hrS)
      rw [cutV_from, ← List.map_drop] at this
      exact this
    have slT : ∀ {σ : L2.St} {G : Hp} {tb : TE} {k : Nat}, σ[2]? = some (some (.ref pr)) → Ex G2 G → Ev tb σ G (.int (k : Int)) → EvL (tSl (rSlL K) (tVar 2) tNoPart (tPart tb)) σ G (((rowsOf p).take k).map V.str) := fun {σ G tb k} h e hk => by
      have := el_sl (K := K) (te := tVar 2) (tl := tNoPart) (th := tPart tb) (ev_var h) eo_none (eo_some hk) (ex_l e hrS)
      rw [cutV_to, ← List.map_take] at this
      exact this
    have putL : ∀ {σ : L2.St} {G : Hp} {te : TE} {z : Str}, σ[2]? = some (some (.ref pr)) → σ[4]? = some (some (.int ((n + 1 : Nat) : Int))) → Ex G2 G → Ev te σ G (.str z) → EvL (tOp rCat (tOp rCat (tSl (rSlL K) (tVar 2) tNoPart (tPart (tVar 4))) (tLst (tCons te tNil))) (tSl (rSlL K) (tVar 2) (tPart (tVar 4)) tNoPart)) σ G ((putRows ("in " ++ numT p.many) p n z).map V.str) := fun {σ G te z} h h4 e hz => by
      have := el_catN (el_catN (slT h e (ev_var h4)) (el_lst (ea_cons hz ea_nil) (by show 1 ≤ 100000; decide)) (by rw [List.length_map, List.length_take]; show _ + 1 ≤ 100000; omega)) (sl h e (ev_var h4)) (by simp only [List.length_append, List.length_map, List.length_take, List.length_drop, List.length_cons, List.length_nil]; omega)
      rw [← put_rows, List.map_append, List.map_append]
      exact this
    have hj := join_short (rows := rowsOf p) (by omega) hsh
    have hjoin : ∀ {σ : L2.St} {G : Hp}, σ[2]? = some (some (.ref pr)) → Ex G2 G → Ev (tM1 (rJoin K) (tC (.str "\n")) (tVar 2)) σ G (.str (Txt.join "\n" (rowsOf p))) := fun h e => ev_join ev_c (ev_var h) (ex_l e hrS) hj.2
    have oneP : ∀ {h z : Str}, OneRow h → OneRow z → ∀ r ∈ putRows h p n z, OneRow r := fun h1 h2 r hr => by
      rcases put_mem hr with rfl | rfl | hr
      · exact h1
      · exact h2
      · exact hone r hr
    have shP : ∀ {h z : Str}, h.length ≤ 120 → z.length ≤ 30 → ∀ r ∈ putRows h p n z, r.length ≤ 120 := fun h1 h2 r hr => by
      rcases put_mem hr with rfl | rfl | hr
      · exact h1
      · omega
      · exact hsh r hr
    have hm0 : ("in " ++ numT p.many : Str) ∈ rowsOf p := List.mem_cons_self
    have eqW : ∀ (τ : L2.St) (G : Hp) (k : Int), τ[5]? = some (some (.int (c % 7))) → EvT (tTest (tOp rEq (tVar 5) (tC (.int k)))) τ G (decide (c % 7 = k)) := fun τ G k h => et_test (ev_op (ev_var h) ev_c rv_eqI)
    -- 1: another first row
    refine go_when (b := decide (c % 7 = 1)) (eqW _ _ _ rfl) (fun h => ?_) (fun _ => ?_)
    · obtain ⟨o1, o2, o3⟩ := oddHeads_ok (k := (c / 7 % 12).toNat) (by omega)
      have hx : ∀ r ∈ oddHeads.getD (c / 7 % 12).toNat "" :: (rowsOf p).drop 1, OneRow r ∧ r.length ≤ 120 := fun r hr => by
        rcases List.mem_cons.mp hr with rfl | hr
        · exact ⟨o2, by omega⟩
        · exact ⟨hone r (List.mem_of_mem_drop hr), hsh r (List.mem_of_mem_drop hr)⟩
      have hj1 := join_short (rows := oddHeads.getD (c / 7 % 12).toNat "" :: (rowsOf p).drop 1) (by rw [List.length_cons, List.length_drop]; omega) fun r hr => (hx r hr).2
      refine go_ret (ev_callS (ea_cons (ev_joinN (ys := oddHeads.getD (c / 7 % 12).toNat "" :: (rowsOf p).drop 1) ev_c (el_catN (el_lst (ea_cons (ev_callS (ea_cons (ev_op (ev_var rfl) ev_c (rv_I ⟨by decide, by decide⟩)) ea_nil) sv_odd_head) ea_nil) (by show 1 ≤ 100000; decide)) (sl rfl (Ex.refl _) (ev_is ev_c rfl)) (by rw [List.length_map, List.length_drop]; show 1 + _ ≤ 100000; omega)) hj1.2) (ea_cons ev_c ea_nil)) (sv_refused (e := .text) (by omega) ?_)) fun H1 _ => q H1
      exact read_bad (by simp) (fun r hr => (hx r hr).1) (parseL_head o1)
    -- 2: a row put in
    refine go_when (b := decide (c % 7 = 2)) (eqW _ _ _ rfl) (fun h => ?_) (fun _ => ?_)
    · obtain ⟨o1, o2, o3⟩ := oddRows_ok (k := (c / 7 % 36).toNat) (by omega)
      have hj1 := join_short (rows := putRows ("in " ++ numT p.many) p n (oddRows.getD (c / 7 % 36).toNat "")) (by rw [put_len]; omega) (shP (hsh _ hm0) o3)
      refine go_ret (ev_callS (ea_cons (ev_joinN ev_c (putL rfl rfl (Ex.refl _) (ev_callS (ea_cons (ev_op (ev_var rfl) ev_c (rv_I ⟨by decide, by decide⟩)) ea_nil) sv_odd_row)) hj1.2) (ea_cons ev_c ea_nil)) (sv_refused (e := .text) (by omega) ?_)) fun H1 _ => q H1
      refine read_bad (by unfold putRows; simp) (oneP (hone _ hm0) o2) (parseL_bad (z := oddRows.getD (c / 7 % 36).toNat "") ?_ o1)
      exact List.mem_append_left _ (List.mem_append_right _ (List.mem_singleton.mpr rfl))
    -- 3: a line end behind
    refine go_when (b := decide (c % 7 = 3)) (eqW _ _ _ rfl) (fun h => ?_) (fun _ => ?_)
    · have h1 : ("\n" : Str).length = 1 := by decide +kernel
      refine go_ret (ev_callS (ea_cons (ev_addZ (hjoin rfl (Ex.refl _)) ev_c (by omega)) (ea_cons ev_c ea_nil)) (sv_refused (e := .text) (by rw [PySem.Str.length_append]; omega) ?_)) fun H1 _ => q H1
      rw [join_end rowsOf_ne]
      refine read_bad (by simp) (fun r hr => ?_) (parseL_bad (r0 := "in " ++ numT p.many) (rest := p.gates.map rowG ++ [("" : Str)]) (z := "") (List.mem_append_right _ (List.mem_singleton.mpr rfl)) ?_)
      · rcases List.mem_append.mp hr with hr | hr
        · exact hone r hr
        · rw [List.mem_singleton.mp hr]
          show 10 ∉ ("" : Str).cps.toList
          decide +kernel
      · have : (gateM "").isNone = true := by decide +kernel
        exact Option.isNone_iff_eq_none.mp this
    -- 4: a row that is none of a plan
    refine go_when (b := decide (c % 7 = 4)) (eqW _ _ _ rfl) (fun h => ?_) (fun _ => ?_)
    · refine go_asgP (ep_call (vs := [.int (c / 14)]) (ea_cons (ev_op (ev_var rfl) ev_c (rv_I ⟨by decide, by decide⟩)) ea_nil) sg_wrong_row) fun wv G3 e3 hw => ?_
      obtain ⟨pw, rfl, hW⟩ := hw
      obtain ⟨g, er, hg, hwe, ho, hz30, herr⟩ := wrong_ok (k := (c / 14 % 8).toNat) (by omega)
      generalize wrongRows.getD (c / 14 % 8).toNat ("", "") = wr at *
      have w0 : atI [V.str wr.1, .str wr.2] 0 = some (.str wr.1) := rfl
      have w1 : atI [V.str wr.1, .str wr.2] 1 = some (.str wr.2) := rfl
      refine go_asg (v := .str (errWord er)) (by rw [← hwe]; exact ev_op (ev_var rfl) ev_c (rv_ixT hW w1)) ?_
      refine go_asgL (putL (z := wr.1) rfl rfl e3 (ev_op (ev_var rfl) ev_c (rv_ixT hW w0))) fun pq hpq => ?_
      have hs0 := slice_head (numT p.many)
      have hnm0 := numM_numT hv.m0 (by have := hv.m60; omega)
      refine go_cut (fun σ' G' => ∃ hd m, σ' = [some (.ref a), some v, some (.ref pq), some (.int c), some (.int ((n + 1 : Nat) : Int)), some (.int (c % 7)), some (.ref pw), some (.str (errWord er)), none, none, none, none] ∧ G' pq = some (.lst ((putRows hd p n wr.1).map V.str)) ∧ Txt.slice hd none (some 3) = "in " ∧ numM (Txt.slice hd (some 3) none) = some m ∧ OneRow hd ∧ hd.length ≤ 120 ∧ (hd = "in 61" ∨ m = p.many)) (go_ifs (b := decide (c / 112 % 4 = 1)) (et_test (ev_op (ev_op (ev_op (ev_var rfl) ev_c (rv_I ⟨by decide, by decide⟩)) ev_c (rv_I (by decide))) ev_c rv_eqI)) (fun _ => ?_) (fun _ => ?_)) ?_
      · refine go_setL (l := pq) (j := 0) (v := .str "in 61") ev_c (ev_var rfl) upd_same (ev_is ev_c rfl) (by rw [List.length_map, put_len]; omega) ?_
        exact go_kn ⟨"in 61", 61, rfl, upd_same, head_61.1, head_61.2.1, head_61.2.2, by decide +kernel, .inl rfl⟩
      · exact go_kn ⟨_, p.many, rfl, upd_same, hs0.1, by rw [hs0.2]; exact hnm0, hone _ hm0, hsh _ hm0, .inr rfl⟩
      rintro σ5 G5 ⟨hd, m, rfl, hq, hs1, hs2, ho1, hl1, hcase⟩
      have hqS := sq_of (K := K) hq
      have i0 : atI ((putRows hd p n wr.1).map V.str) 0 = some (.str hd) := atI_nat (j := 0) rfl
      have hpl := put_len (h := hd) (z := wr.1) (p := p) (n := n)
      refine go_cut (fun σ' G' => ∃ e2, σ' = [some (.ref a), some v, some (.ref pq), some (.int c), some (.int ((n + 1 : Nat) : Int)), some (.int (c % 7)), some (.ref pw), some (.str (errWord e2)), none, none, none, none] ∧ Ex G5 G' ∧ errPlan ⟨m, putG p.gates n g⟩ = some e2) (go_ifs (b := decide ((((putRows hd p n wr.1).map V.str).length : Int) > 201) || decide (hd = "in 61")) (et_or (et_test (ev_op (ev_len (ev_var rfl) hqS) ev_c rv_I0)) fun _ => et_test (ev_op (ev_op (ev_var rfl) ev_c (rv_ixL hqS i0)) ev_c rv_eqS)) (fun h => ?_) (fun h => ?_)) ?_
      · refine go_asg (v := .str (errWord .size)) ev_c (go_kn ⟨.size, rfl, Ex.refl _, size_put ?_⟩)
        rw [Bool.or_eq_true, decide_eq_true_eq, decide_eq_true_eq, List.length_map, hpl] at h
        rcases h with h | h
        · right; omega
        · left
          rw [h, head_61.2.1] at hs2
          exact (Option.some.inj hs2).symm
      · rw [Bool.or_eq_false_iff, decide_eq_false_iff_not, decide_eq_false_iff_not, List.length_map, hpl] at h
        refine go_kn ⟨er, rfl, Ex.refl _, err_put hv hng herr ?_ (by omega)⟩
        rcases hcase with h2 | h2
        · exact absurd h2 h.2
        · exact h2
      rintro σ6 G6 ⟨e2, rfl, e6, hEp⟩
      have hq6 := e6 _ _ hq
      refine go_when (b := decide (c / 7 % 2 = 1)) (et_test (ev_op (ev_op (ev_op (ev_var rfl) ev_c (rv_I ⟨by decide, by decide⟩)) ev_c (rv_I (by decide))) ev_c rv_eqI)) (fun _ => ?_) (fun _ => ?_)
      · obtain ⟨o1, o2, o3⟩ := oddRows_ok (k := (c / 448 % 36).toNat) (by omega)
        have hj1 := join_short (rows := putRows hd p n wr.1 ++ [oddRows.getD (c / 448 % 36).toNat ""]) (by rw [List.length_append, hpl]; show _ + 1 ≤ 203; omega) fun r hr => by
          rcases List.mem_append.mp hr with hr | hr
          · exact shP hl1 hz30 r hr
          · rw [List.mem_singleton.mp hr]; omega
        refine go_ret (ev_callS (ea_cons (ev_joinN (ys := putRows hd p n wr.1 ++ [oddRows.getD (c / 448 % 36).toNat ""]) ev_c ?_ hj1.2) (ea_cons ev_c ea_nil)) (sv_refused (e := .text) (by omega) ?_)) fun H1 _ => q H1
        · rw [List.map_append]
          exact el_catV (ev_var rfl) hq6 (el_lst (ea_cons (ev_callS (ea_cons (ev_op (ev_var rfl) ev_c (rv_I ⟨by decide, by decide⟩)) ea_nil) sv_odd_row) ea_nil) (by show 1 ≤ 100000; decide)) (by rw [List.length_map, hpl]; show _ + 1 ≤ 100000; omega)
        · refine read_bad (by simp) (fun r hr => ?_) (parseL_bad (z := oddRows.getD (c / 448 % 36).toNat "") (List.mem_append_right _ (List.mem_singleton.mpr rfl)) o1)
          rcases List.mem_append.mp hr with hr | hr
          · exact oneP ho1 ho r hr
          · rw [List.mem_singleton.mp hr]; exact o2
      · have hj1 := join_short (rows := putRows hd p n wr.1) (by omega) (shP hl1 hz30)
        exact go_ret (ev_callS (ea_cons (ev_join ev_c (ev_var rfl) (sq_of hq6) hj1.2) (ea_cons (ev_var rfl) ea_nil)) (sv_refused (e := e2) (by omega) (read_put (by unfold putRows; simp) (oneP ho1 ho) (parse_put hv hg hs1 hs2) hEp))) fun H1 _ => q H1
    -- 5: a sign
    refine go_when (b := decide (c % 7 = 5)) (eqW _ _ _ rfl) (fun h => ?_) (fun _ => ?_)
    · refine go_asg (hjoin rfl (Ex.refl _)) ?_
      have hT := told_pos hv
      have hTl := hj.1
      generalize Txt.join "\n" (rowsOf p) = T at *
      have mx := mixed_in (c := c) (k := 9) (m := (T.length : Int)) (by omega)
      refine go_asg (v := .int (mixed c 9 (T.length : Int))) (ev_callS (ea_cons (ev_var rfl) (ea_cons ev_c (ea_cons (ev_lenZ (ev_var rfl) (by omega)) ea_nil))) (sv_mixed (by omega))) ?_
      generalize mixed c 9 (T.length : Int) = s0 at *
      obtain ⟨s1, rfl⟩ : ∃ s1 : Nat, s0 = (s1 : Int) := ⟨s0.toNat, by omega⟩
      refine go_when (b := decide (c / 7 % 3 = 1)) (et_test (ev_op (ev_op (ev_op (ev_var rfl) ev_c (rv_I ⟨by decide, by decide⟩)) ev_c (rv_I (by decide))) ev_c rv_eqI)) (fun _ => ?_) (fun _ => ?_)
      · obtain ⟨k1, k2⟩ := cut_text T (a := s1) (b := s1 + 1) (by omega) (by omega)
        exact go_ret (ev_callS (ea_cons (ev_addZ (ev_slX (ev_var rfl) eo_none (eo_some (ev_var rfl)) (by omega)) (ev_slX (ev_var rfl) (eo_some (i := ((s1 + 1 : Nat) : Int)) (ev_is (ev_op (ev_var rfl) ev_c rv_I0) (by rw [Int.natCast_add]; rfl))) eo_none (by omega)) (by rw [k1, k2]; omega)) ea_nil) (sv_judged (by rw [PySem.Str.length_append, k1, k2]; omega))) fun H1 _ => q H1
      · obtain ⟨b, hb, hb1⟩ : ∃ b : Nat, (s1 : Int) + c / 14 % 2 = (b : Int) ∧ s1 ≤ b ∧ b ≤ s1 + 1 := ⟨((s1 : Int) + c / 14 % 2).toNat, by omega, by omega, by omega⟩
        obtain ⟨k1, k2⟩ := cut_text T (a := s1) (b := b) (by omega) (by omega)
        have h1 : (⟨#[signAt (c / 21)]⟩ : Str).length = 1 := rfl
        refine go_asg (v := .str (Txt.slice T none (some (s1 : Int)) ++ ⟨#[signAt (c / 21)]⟩ ++ Txt.slice T (some (b : Int)) none)) (ev_addZ (ev_addZ (ev_slX (ev_var rfl) eo_none (eo_some (ev_var rfl)) (by omega)) (ev_callS (ea_cons (ev_op (ev_var rfl) ev_c (rv_I ⟨by decide, by decide⟩)) ea_nil) sv_sign_by) (by rw [k1, h1]; omega)) (ev_slX (ev_var rfl) (eo_some (i := (b : Int)) (ev_is (ev_op (ev_var rfl) (ev_op (ev_op (ev_var rfl) ev_c (rv_I ⟨by decide, by decide⟩)) ev_c (rv_I (by decide))) rv_I0) (by rw [hb]))) eo_none (by omega)) (by rw [PySem.Str.length_append, k1, k2, h1]; omega)) ?_
        exact go_ret (ev_callS (ea_cons (ev_var rfl) ea_nil) (sv_judged (by rw [PySem.Str.length_append, PySem.Str.length_append, k1, k2, h1]; omega))) fun H1 _ => q H1
    -- as it is
    have hpx := id hp2
    obtain ⟨pa, pg, rfl, hP, ws, hL, hR⟩ := hp2
    have i0 : atI [V.int p.many, .ref pg] 0 = some (.int p.many) := rfl
    have i1 : atI [V.int p.many, .ref pg] 1 = some (.ref pg) := rfl
    refine go_asgP (ep_plan (p := p) (ev_op (ev_var rfl) ev_c (rv_ixT hP i0)) (el_list (ev_op (ev_var rfl) ev_c (rv_ixT hP i1)) hL) hR) fun hv_ G3 e3 hh => ?_
    refine go_asg (v := .str (Txt.join "\n" (rowsOf p))) (ev_callS (ea_cons (ev_var rfl) ea_nil) (sv_written hh hv)) ?_
    refine go_when (b := !true || (!decide (Txt.join "\n" (rowsOf p) = Txt.join "\n" (rowsOf p)) || false)) (et_or (et_not (et_B (ev_isi (ev_var rfl) ev_c (.ty _) (.base (.str _)) (kit_ty (by decide +kernel))))) fun _ => et_or (et_test (ev_op (ev_var rfl) (hjoin rfl e3) rv_neS)) fun _ => et_test (ev_op (ev_var rfl) (ev_var rfl) (rv_neD hh.dp (hpx.mono e3).dp (planD_shaped hstr)))) (fun h => ?_) (fun _ => ?_)
    · rw [decide_eq_true rfl] at h; cases h
    refine go_ret (ev_callP (A := fun vs G' => ∃ v, vs = [v, .ref pa] ∧ PlanAt K G' v p ∧ PlanAt K G' (.ref pa) p) ((eap_p (ep_call (ea_cons (hjoin rfl e3) ea_nil) (sg_read (by omega) (read_rows hv))) fun v' G' e' _ => ea_cons (ev_var rfl) ea_nil).imp fun vs G' e' hv' => ?_) fun vs G' _ hv' => ?_) fun H1 _ => q H1
    · obtain ⟨v', rfl, hpl⟩ := hv'
      exact ⟨v', rfl, hpl, hpx.mono (e3.trans e')⟩
    · obtain ⟨v', rfl, h1, h2⟩ := hv'
      exact sv_same_plan h1 h2 hstr (by omega) (fun g hg => by have := gate_short (hv.gate g hg); omega)

end

section
variable {P : Program} {w : World} {K : PySem.W.Frag} {mg : Str → Option Value} {base : Heap} {A : Ads}

theorem law_all {fa : Addr} (T : Txt K w mg A) (d_l_cell_at : DefAt K mg "_law_cell_at" "_law_cell_at" s_l_cell_at ["_law_script", "_law_k"]) (d_l_many : DefAt K mg "_law_many" "_law_many" s_l_many ["_law_cell"]) (d_l_mixed : DefAt K mg "_law_mixed" "_law_mixed" s_l_mixed ["_law_cell", "_law_k", "_law_many_here"]) (d_l_gate_by : DefAt K mg "_law_gate_by" "_law_gate_by" s_l_gate_by ["_law_cell", "_law_below", "_law_most"]) (d_l_loose : DefAt K mg "_law_loose" "_law_loose" s_l_loose ["_law_script", "_law_many_here", "_law_most"]) (d_l_gates_by : DefAt K mg "_law_gates_by" "_law_gates_by" s_l_gates_by ["_law_script", "_law_many_here", "_law_most"]) (d_l_place : DefAt K mg "_law_place" "_law_place" s_l_place ["_law_k", "_law_count", "_law_turn"]) (d_l_turned : DefAt K mg "_law_turned" "_law_turned" s_l_turned ["_law_many_here", "_law_gates", "_law_turn"]) (d_l_plan_by : DefAt K mg "_law_plan_by" "_law_plan_by" s_l_plan_by ["_law_script", "_law_most"]) (d_l_text_of : DefAt K mg "_law_text_of" "_law_text_of" s_l_text_of ["_law_plan"]) (d_l_odd_head : DefAt K mg "_law_odd_head" "_law_odd_head" s_l_odd_head ["_law_cell"]) (d_number : DefAt K mg "number" "number" s_number ["word"]) (d_gate_of : DefAt K mg "gate_of" "gate_of" s_gate_of ["row"]) (d_wants : DefAt K mg "wants" "wants" s_wants ["kind"]) (d_checked_gate : DefAt K mg "checked_gate" "checked_gate" s_checked_gate ["gate", "lines"]) (d_checked : DefAt K mg "checked" "checked" s_checked ["plan"]) (d_read : DefAt K mg "read" "read" s_read ["text"]) (d_l_class : DefAt K mg "_law_class" "_law_class" s_l_class ["_law_e"]) (d_l_refused : DefAt K mg "_law_refused" "_law_refused" s_l_refused ["_law_told", "_law_due_here"]) (d_l_odd_row : DefAt K mg "_law_odd_row" "_law_odd_row" s_l_odd_row ["_law_cell"]) (d_l_wrong_row : DefAt K mg "_law_wrong_row" "_law_wrong_row" s_l_wrong_row ["_law_cell"]) (d_l_figures : DefAt K mg "_law_figures" "_law_figures" s_l_figures ["_law_word"]) (d_l_gate_of : DefAt K mg "_law_gate_of" "_law_gate_of" s_l_gate_of ["_law_row"]) (d_l_parsed : DefAt K mg "_law_parsed" "_law_parsed" s_l_parsed ["_law_told"]) (d_l_fault : DefAt K mg "_law_fault" "_law_fault" s_l_fault ["_law_gate", "_law_lines"]) (d_l_due : DefAt K mg "_law_due" "_law_due" s_l_due ["_law_told"]) (d_l_whole : DefAt K mg "_law_whole" "_law_whole" s_l_whole ["_law_found"]) (d_l_same_plan : DefAt K mg "_law_same_plan" "_law_same_plan" s_l_same_plan ["_law_found", "_law_due_here"]) (d_l_judged : DefAt K mg "_law_judged" "_law_judged" s_l_judged ["_law_told"]) (d_l_sign_by : DefAt K mg "_law_sign_by" "_law_sign_by" s_l_sign_by ["_law_cell"]) (d_written : DefAt K mg "written" "written" s_written ["plan"]) (d_law : DefAt K mg "law" "law" s_law ["_law_script"]) (hfa : mg "law" = some (.ref fa)) : ∃ fd : FuncData, (∀ (s : Shared) (u : Value), BindsTo s fd ⟨[u], []⟩ [("_law_script", u)]) ∧ ∀ base : Heap, K.In base → base.Ns mainGlobals mg → FnOk P w K mg base (L2.CX P w) 7 fa fd ["_law_script"] (sp_law K A) :=
  law_of d_law hfa fun base {_ _} F => by
    have c_l_cell_at : CalX P w K mg base 1 "_law_cell_at" (sp_l_cell_at K A) := cal_of d_l_cell_at fun F => ok_l_cell_at F T 
    have c_l_many : CalX P w K mg base 1 "_law_many" (sp_l_many K A) := cal_of d_l_many fun F => ok_l_many F T 
    have c_l_mixed : CalX P w K mg base 1 "_law_mixed" (sp_l_mixed K A) := cal_of d_l_mixed fun F => ok_l_mixed F T 
    have c_l_gate_by : CalX P w K mg base 2 "_law_gate_by" (sp_l_gate_by K A) := cal_of d_l_gate_by fun F => ok_l_gate_by F T c_l_mixed
    have c_l_loose : CalX P w K mg base 3 "_law_loose" (sp_l_loose K A) := cal_of d_l_loose fun F => ok_l_loose F T c_l_cell_at c_l_gate_by
    have c_l_gates_by : CalX P w K mg base 3 "_law_gates_by" (sp_l_gates_by K A) := cal_of d_l_gates_by fun F => ok_l_gates_by F T c_l_cell_at c_l_gate_by
    have c_l_place : CalX P w K mg base 1 "_law_place" (sp_l_place K A) := cal_of d_l_place fun F => ok_l_place F T 
    have c_l_turned : CalX P w K mg base 2 "_law_turned" (sp_l_turned K A) := cal_of d_l_turned fun F => ok_l_turned F T c_l_place
    have c_l_plan_by : CalX P w K mg base 4 "_law_plan_by" (sp_l_plan_by K A) := cal_of d_l_plan_by fun F => ok_l_plan_by F T c_l_cell_at c_l_many c_l_loose c_l_gates_by c_l_turned
    have c_l_text_of : CalX P w K mg base 1 "_law_text_of" (sp_l_text_of K A) := cal_of d_l_text_of fun F => ok_l_text_of F T 
    have c_l_odd_head : CalX P w K mg base 1 "_law_odd_head" (sp_l_odd_head K A) := cal_of d_l_odd_head fun F => ok_l_odd_head F T 
    have c_number : CalX P w K mg base 1 "number" (sp_number K A) := cal_of d_number fun F => ok_number F T 
    have c_gate_of : CalX P w K mg base 2 "gate_of" (sp_gate_of K A) := cal_of d_gate_of fun F => ok_gate_of F T c_number
    have c_wants : CalX P w K mg base 1 "wants" (sp_wants K A) := cal_of d_wants fun F => ok_wants F T 
    have c_checked_gate : CalX P w K mg base 2 "checked_gate" (sp_checked_gate K A) := cal_of d_checked_gate fun F => ok_checked_gate F T c_wants
    have c_checked : CalX P w K mg base 3 "checked" (sp_checked K A) := cal_of d_checked fun F => ok_checked F T c_checked_gate
    have c_read : CalX P w K mg base 4 "read" (sp_read K A) := cal_of d_read fun F => ok_read F T c_number c_gate_of c_checked
    have c_l_class : CalE P w K mg base 1 "_law_class" (sp_l_class K A) := calE_of d_l_class fun F => ok_l_class F T 
    have c_l_refused : CalX P w K mg base 5 "_law_refused" (sp_l_refused K A) := cal_of d_l_refused fun F => ok_l_refused F T c_read c_l_class
    have c_l_odd_row : CalX P w K mg base 1 "_law_odd_row" (sp_l_odd_row K A) := cal_of d_l_odd_row fun F => ok_l_odd_row F T 
    have c_l_wrong_row : CalX P w K mg base 1 "_law_wrong_row" (sp_l_wrong_row K A) := cal_of d_l_wrong_row fun F => ok_l_wrong_row F T 
    have c_l_figures : CalX P w K mg base 1 "_law_figures" (sp_l_figures K A) := cal_of d_l_figures fun F => ok_l_figures F T 
    have c_l_gate_of : CalX P w K mg base 2 "_law_gate_of" (sp_l_gate_of K A) := cal_of d_l_gate_of fun F => ok_l_gate_of F T c_l_figures
    have c_l_parsed : CalX P w K mg base 3 "_law_parsed" (sp_l_parsed K A) := cal_of d_l_parsed fun F => ok_l_parsed F T c_l_gate_of c_l_figures
    have c_l_fault : CalX P w K mg base 1 "_law_fault" (sp_l_fault K A) := cal_of d_l_fault fun F => ok_l_fault F T 
    have c_l_due : CalX P w K mg base 4 "_law_due" (sp_l_due K A) := cal_of d_l_due fun F => ok_l_due F T c_l_parsed c_l_fault
    have c_l_whole : CalX P w K mg base 1 "_law_whole" (sp_l_whole K A) := cal_of d_l_whole fun F => ok_l_whole F T 
    have c_l_same_plan : CalX P w K mg base 2 "_law_same_plan" (sp_l_same_plan K A) := cal_of d_l_same_plan fun F => ok_l_same_plan F T c_l_whole
    have c_l_judged : CalX P w K mg base 6 "_law_judged" (sp_l_judged K A) := cal_of d_l_judged fun F => ok_l_judged F T c_l_due c_l_refused c_read c_l_parsed c_l_same_plan
    have c_l_sign_by : CalX P w K mg base 1 "_law_sign_by" (sp_l_sign_by K A) := cal_of d_l_sign_by fun F => ok_l_sign_by F T 
    have c_written : CalX P w K mg base 4 "written" (sp_written K A) := cal_of d_written fun F => ok_written F T c_checked
    exact ok_law F T c_l_plan_by c_l_text_of c_l_cell_at c_l_mixed c_l_odd_head c_l_refused c_l_odd_row c_l_wrong_row c_l_judged c_l_sign_by c_written c_read c_l_same_plan
theorem txt_of {h : Heap} {cLEAST cSignalError cNoSize cNoKind cNoSources cNoLine cNoDelay cNoValues cRinged cNoDeed cNoText : Addr} {a0 b0 a1 b1 a2 b2 a3 b3 a4 b4 a5 b5 a6 b6 a7 b7 a8 b8 : Tok}{tokc_MANY_SOURCES tokc_MANY_INPUTS tokc_MANY_GATES tokc_MOST_DELAY tokc_MANY_FIGURES tokc_FIGURES tokc_LETTERS : Tok} (X : K.In h) (G : h.Ns mainGlobals mg) (aL : PySem.W.nsIn K mainGlobals "LEAST" = some (some (.ref cLEAST))) (lL : K.lookup cLEAST = some { cls := .type "dict", data := .dict #[{ hash := PyData.keyHash w.params "yes", key := .str "yes" a0, val := .int 0 b0 }, { hash := PyData.keyHash w.params "no", key := .str "no" a1, val := .int 0 b1 }, { hash := PyData.keyHash w.params "keep", key := .str "keep" a2, val := .int 1 b2 }, { hash := PyData.keyHash w.params "not", key := .str "not" a3, val := .int 1 b3 }, { hash := PyData.keyHash w.params "both", key := .str "both" a4, val := .int 2 b4 }, { hash := PyData.keyHash w.params "either", key := .str "either" a5, val := .int 2 b5 }, { hash := PyData.keyHash w.params "unlike", key := .str "unlike" a6, val := .int 2 b6 }, { hash := PyData.keyHash w.params "pick", key := .str "pick" a7, val := .int 3 b7 }, { hash := PyData.keyHash w.params "most", key := .str "most" a8, val := .int 3 b8 }] 9 }) (wL : (cLEAST == sysModules) = false) (a_SignalError : PySem.W.nsIn K mainGlobals "SignalError" = some (some (.ref cSignalError))) (x_SignalError : PySem.W.excIn K cSignalError [.type "ValueError", .type "Exception", .type "BaseException", .type "object"] "ValueError.__new__" = true) (k_SignalError : PySem.W.keepIn K (.ref cSignalError) = true) (b_SignalError : PySem.W.subIn K (.ref cSignalError) (.type "BaseException") = some true) (t_SignalError : PySem.W.typeIn K (.ref cSignalError) = some (.type "type")) (a_NoSize : PySem.W.nsIn K mainGlobals "NoSize" = some (some (.ref cNoSize))) (x_NoSize : PySem.W.excIn K cNoSize [.type "ValueError", .type "Exception", .type "BaseException", .type "object"] "ValueError.__new__" = true) (k_NoSize : PySem.W.keepIn K (.ref cNoSize) = true) (b_NoSize : PySem.W.subIn K (.ref cNoSize) (.type "BaseException") = some true) (t_NoSize : PySem.W.typeIn K (.ref cNoSize) = some (.type "type")) (a_NoKind : PySem.W.nsIn K mainGlobals "NoKind" = some (some (.ref cNoKind))) (x_NoKind : PySem.W.excIn K cNoKind [.type "ValueError", .type "Exception", .type "BaseException", .type "object"] "ValueError.__new__" = true) (k_NoKind : PySem.W.keepIn K (.ref cNoKind) = true) (b_NoKind : PySem.W.subIn K (.ref cNoKind) (.type "BaseException") = some true) (t_NoKind : PySem.W.typeIn K (.ref cNoKind) = some (.type "type")) (a_NoSources : PySem.W.nsIn K mainGlobals "NoSources" = some (some (.ref cNoSources))) (x_NoSources : PySem.W.excIn K cNoSources [.type "ValueError", .type "Exception", .type "BaseException", .type "object"] "ValueError.__new__" = true) (k_NoSources : PySem.W.keepIn K (.ref cNoSources) = true) (b_NoSources : PySem.W.subIn K (.ref cNoSources) (.type "BaseException") = some true) (t_NoSources : PySem.W.typeIn K (.ref cNoSources) = some (.type "type")) (a_NoLine : PySem.W.nsIn K mainGlobals "NoLine" = some (some (.ref cNoLine))) (x_NoLine : PySem.W.excIn K cNoLine [.type "ValueError", .type "Exception", .type "BaseException", .type "object"] "ValueError.__new__" = true) (k_NoLine : PySem.W.keepIn K (.ref cNoLine) = true) (b_NoLine : PySem.W.subIn K (.ref cNoLine) (.type "BaseException") = some true) (t_NoLine : PySem.W.typeIn K (.ref cNoLine) = some (.type "type")) (a_NoDelay : PySem.W.nsIn K mainGlobals "NoDelay" = some (some (.ref cNoDelay))) (x_NoDelay : PySem.W.excIn K cNoDelay [.type "ValueError", .type "Exception", .type "BaseException", .type "object"] "ValueError.__new__" = true) (k_NoDelay : PySem.W.keepIn K (.ref cNoDelay) = true) (b_NoDelay : PySem.W.subIn K (.ref cNoDelay) (.type "BaseException") = some true) (t_NoDelay : PySem.W.typeIn K (.ref cNoDelay) = some (.type "type")) (a_NoValues : PySem.W.nsIn K mainGlobals "NoValues" = some (some (.ref cNoValues))) (x_NoValues : PySem.W.excIn K cNoValues [.type "ValueError", .type "Exception", .type "BaseException", .type "object"] "ValueError.__new__" = true) (k_NoValues : PySem.W.keepIn K (.ref cNoValues) = true) (b_NoValues : PySem.W.subIn K (.ref cNoValues) (.type "BaseException") = some true) (t_NoValues : PySem.W.typeIn K (.ref cNoValues) = some (.type "type")) (a_Ringed : PySem.W.nsIn K mainGlobals "Ringed" = some (some (.ref cRinged))) (x_Ringed : PySem.W.excIn K cRinged [.type "ValueError", .type "Exception", .type "BaseException", .type "object"] "ValueError.__new__" = true) (k_Ringed : PySem.W.keepIn K (.ref cRinged) = true) (b_Ringed : PySem.W.subIn K (.ref cRinged) (.type "BaseException") = some true) (t_Ringed : PySem.W.typeIn K (.ref cRinged) = some (.type "type")) (a_NoDeed : PySem.W.nsIn K mainGlobals "NoDeed" = some (some (.ref cNoDeed))) (x_NoDeed : PySem.W.excIn K cNoDeed [.type "ValueError", .type "Exception", .type "BaseException", .type "object"] "ValueError.__new__" = true) (k_NoDeed : PySem.W.keepIn K (.ref cNoDeed) = true) (b_NoDeed : PySem.W.subIn K (.ref cNoDeed) (.type "BaseException") = some true) (t_NoDeed : PySem.W.typeIn K (.ref cNoDeed) = some (.type "type")) (a_NoText : PySem.W.nsIn K mainGlobals "NoText" = some (some (.ref cNoText))) (x_NoText : PySem.W.excIn K cNoText [.type "ValueError", .type "Exception", .type "BaseException", .type "object"] "ValueError.__new__" = true) (k_NoText : PySem.W.keepIn K (.ref cNoText) = true) (b_NoText : PySem.W.subIn K (.ref cNoText) (.type "BaseException") = some true) (t_NoText : PySem.W.typeIn K (.ref cNoText) = some (.type "type")) (n_range : PySem.W.nsIn K mainGlobals "range" = some none) (n_len : PySem.W.nsIn K mainGlobals "len" = some none) (n_all : PySem.W.nsIn K mainGlobals "all" = some none) (n_list : PySem.W.nsIn K mainGlobals "list" = some none) (n_tuple : PySem.W.nsIn K mainGlobals "tuple" = some none) (n_int : PySem.W.nsIn K mainGlobals "int" = some none) (n_bool : PySem.W.nsIn K mainGlobals "bool" = some none) (n_str : PySem.W.nsIn K mainGlobals "str" = some none) (n_isinstance : PySem.W.nsIn K mainGlobals "isinstance" = some none) (n_ValueError : PySem.W.nsIn K mainGlobals "ValueError" = some none) (c_MANY_SOURCES : PySem.W.nsIn K mainGlobals "MANY_SOURCES" = some (some (.int 9 tokc_MANY_SOURCES))) (c_MANY_INPUTS : PySem.W.nsIn K mainGlobals "MANY_INPUTS" = some (some (.int 60 tokc_MANY_INPUTS))) (c_MANY_GATES : PySem.W.nsIn K mainGlobals "MANY_GATES" = some (some (.int 200 tokc_MANY_GATES))) (c_MOST_DELAY : PySem.W.nsIn K mainGlobals "MOST_DELAY" = some (some (.int 60 tokc_MOST_DELAY))) (c_MANY_FIGURES : PySem.W.nsIn K mainGlobals "MANY_FIGURES" = some (some (.int 9 tokc_MANY_FIGURES))) (c_FIGURES : PySem.W.nsIn K mainGlobals "FIGURES" = some (some (.str "0123456789" tokc_FIGURES))) (c_LETTERS : PySem.W.nsIn K mainGlobals "LETTERS" = some (some (.str "abcdefghijklmnopqrstuvwxyz" tokc_LETTERS))) (s_NoSize_SignalError : PySem.W.subIn K (.ref cNoSize) (.ref cSignalError) = some true) (i_SignalError : PySem.W.isClsIn K cSignalError = true) (e_hn : PySem.W.specialIn K (.builtin "object.__class__") "__get__" = some (some (.builtin "getset_descriptor.__get__"))) (e_ht : PySem.W.takesIn K (.builtin "object.__class__") = some true) (eg_NoSize : PySem.W.findIn K (.ref cNoSize) "__getattribute__" = some (some (.builtin "BaseException.__getattribute__"))) (ek_NoSize : PySem.W.findIn K (.ref cNoSize) "__getattr__" = some none) (ed_NoSize : PySem.W.hasDictIn K cNoSize = true) (ea_NoSize : PySem.W.findIn K (.ref cNoSize) "__class__" = some (some (.builtin "object.__class__"))) (em_NoSize : PySem.W.mroIn K cNoSize (.type "object") = some true) (w_NoSize : PySem.W.subIn K (.ref cNoSize) (.type "ValueError") = some true) (s_NoSize_NoDeed : PySem.W.subIn K (.ref cNoSize) (.ref cNoDeed) = some false) (i_NoDeed : PySem.W.isClsIn K cNoDeed = true) (q_NoSize_NoDeed : (Value.ref cNoSize == Value.ref cNoDeed) = false) (s_NoSize_NoDelay : PySem.W.subIn K (.ref cNoSize) (.ref cNoDelay) = some false) (i_NoDelay : PySem.W.isClsIn K cNoDelay = true) (q_NoSize_NoDelay : (Value.ref cNoSize == Value.ref cNoDelay) = false) (s_NoSize_NoKind : PySem.W.subIn K (.ref cNoSize) (.ref cNoKind) = some false) (i_NoKind : PySem.W.isClsIn K cNoKind = true) (q_NoSize_NoKind : (Value.ref cNoSize == Value.ref cNoKind) = false) (s_NoSize_NoLine : PySem.W.subIn K (.ref cNoSize) (.ref cNoLine) = some false) (i_NoLine : PySem.W.isClsIn K cNoLine = true) (q_NoSize_NoLine : (Value.ref cNoSize == Value.ref cNoLine) = false) (s_NoSize_NoSize : PySem.W.subIn K (.ref cNoSize) (.ref cNoSize) = some true) (i_NoSize : PySem.W.isClsIn K cNoSize = true) (s_NoSize_NoSources : PySem.W.subIn K (.ref cNoSize) (.ref cNoSources) = some false) (i_NoSources : PySem.W.isClsIn K cNoSources = true) (q_NoSize_NoSources : (Value.ref cNoSize == Value.ref cNoSources) = false) (s_NoSize_NoText : PySem.W.subIn K (.ref cNoSize) (.ref cNoText) = some false) (i_NoText : PySem.W.isClsIn K cNoText = true) (q_NoSize_NoText : (Value.ref cNoSize == Value.ref cNoText) = false) (s_NoSize_NoValues : PySem.W.subIn K (.ref cNoSize) (.ref cNoValues) = some false) (i_NoValues : PySem.W.isClsIn K cNoValues = true) (q_NoSize_NoValues : (Value.ref cNoSize == Value.ref cNoValues) = false) (s_NoSize_Ringed : PySem.W.subIn K (.ref cNoSize) (.ref cRinged) = some false) (i_Ringed : PySem.W.isClsIn K cRinged = true) (q_NoSize_Ringed : (Value.ref cNoSize == Value.ref cRinged) = false) (s_NoKind_SignalError : PySem.W.subIn K (.ref cNoKind) (.ref cSignalError) = some true) (eg_NoKind : PySem.W.findIn K (.ref cNoKind) "__getattribute__" = some (some (.builtin "BaseException.__getattribute__"))) (ek_NoKind : PySem.W.findIn K (.ref cNoKind) "__getattr__" = some none) (ed_NoKind : PySem.W.hasDictIn K cNoKind = true) (ea_NoKind : PySem.W.findIn K (.ref cNoKind) "__class__" = some (some (.builtin "object.__class__"))) (em_NoKind : PySem.W.mroIn K cNoKind (.type "object") = some true) (w_NoKind : PySem.W.subIn K (.ref cNoKind) (.type "ValueError") = some true) (s_NoKind_NoDeed : PySem.W.subIn K (.ref cNoKind) (.ref cNoDeed) = some false) (q_NoKind_NoDeed : (Value.ref cNoKind == Value.ref cNoDeed) = false) (s_NoKind_NoDelay : PySem.W.subIn K (.ref cNoKind) (.ref cNoDelay) = some false) (q_NoKind_NoDelay : (Value.ref cNoKind == Value.ref cNoDelay) = false) (s_NoKind_NoKind : PySem.W.subIn K (.ref cNoKind) (.ref cNoKind) = some true) (s_NoKind_NoLine : PySem.W.subIn K (.ref cNoKind) (.ref cNoLine) = some false) (q_NoKind_NoLine : (Value.ref cNoKind == Value.ref cNoLine) = false) (s_NoKind_NoSize : PySem.W.subIn K (.ref cNoKind) (.ref cNoSize) = some false) (q_NoKind_NoSize : (Value.ref cNoKind == Value.ref cNoSize) = false) (s_NoKind_NoSources : PySem.W.subIn K (.ref cNoKind) (.ref cNoSources) = some false) (q_NoKind_NoSources : (Value.ref cNoKind == Value.ref cNoSources) = false) (s_NoKind_NoText : PySem.W.subIn K (.ref cNoKind) (.ref cNoText) = some false) (q_NoKind_NoText : (Value.ref cNoKind == Value.ref cNoText) = false) (s_NoKind_NoValues : PySem.W.subIn K (.ref cNoKind) (.ref cNoValues) = some false) (q_NoKind_NoValues : (Value.ref cNoKind == Value.ref cNoValues) = false) (s_NoKind_Ringed : PySem.W.subIn K (.ref cNoKind) (.ref cRinged) = some false) (q_NoKind_Ringed : (Value.ref cNoKind == Value.ref cRinged) = false) (s_NoSources_SignalError : PySem.W.subIn K (.ref cNoSources) (.ref cSignalError) = some true) (eg_NoSources : PySem.W.findIn K (.ref cNoSources) "__getattribute__" = some (some (.builtin "BaseException.__getattribute__"))) (ek_NoSources : PySem.W.findIn K (.ref cNoSources) "__getattr__" = some none) (ed_NoSources : PySem.W.hasDictIn K cNoSources = true) (ea_NoSources : PySem.W.findIn K (.ref cNoSources) "__class__" = some (some (.builtin "object.__class__"))) (em_NoSources : PySem.W.mroIn K cNoSources (.type "object") = some true) (w_NoSources : PySem.W.subIn K (.ref cNoSources) (.type "ValueError") = some true) (s_NoSources_NoDeed : PySem.W.subIn K (.ref cNoSources) (.ref cNoDeed) = some false) (q_NoSources_NoDeed : (Value.ref cNoSources == Value.ref cNoDeed) = false) (s_NoSources_NoDelay : PySem.W.subIn K (.ref cNoSources) (.ref cNoDelay) = some false) (q_NoSources_NoDelay : (Value.ref cNoSources == Value.ref cNoDelay) = false) (s_NoSources_NoKind : PySem.W.subIn K (.ref cNoSources) (.ref cNoKind) = some false) (q_NoSources_NoKind : (Value.ref cNoSources == Value.ref cNoKind) = false) (s_NoSources_NoLine : PySem.W.subIn K (.ref cNoSources) (.ref cNoLine) = some false) (q_NoSources_NoLine : (Value.ref cNoSources == Value.ref cNoLine) = false) (s_NoSources_NoSize : PySem.W.subIn K (.ref cNoSources) (.ref cNoSize) = some false) (q_NoSources_NoSize : (Value.ref cNoSources == Value.ref cNoSize) = false) (s_NoSources_NoSources : PySem.W.subIn K (.ref cNoSources) (.ref cNoSources) = some true) (s_NoSources_NoText : PySem.W.subIn K (.ref cNoSources) (.ref cNoText) = some false) (q_NoSources_NoText : (Value.ref cNoSources == Value.ref cNoText) = false) (s_NoSources_NoValues : PySem.W.subIn K (.ref cNoSources) (.ref cNoValues) = some false) (q_NoSources_NoValues : (Value.ref cNoSources == Value.ref cNoValues) = false) (s_NoSources_Ringed : PySem.W.subIn K (.ref cNoSources) (.ref cRinged) = some false) (q_NoSources_Ringed : (Value.ref cNoSources == Value.ref cRinged) = false) (s_NoLine_SignalError : PySem.W.subIn K (.ref cNoLine) (.ref cSignalError) = some true) (eg_NoLine : PySem.W.findIn K (.ref cNoLine) "__getattribute__" = some (some (.builtin "BaseException.__getattribute__"))) (ek_NoLine : PySem.W.findIn K (.ref cNoLine) "__getattr__" = some none) (ed_NoLine : PySem.W.hasDictIn K cNoLine = true) (ea_NoLine : PySem.W.findIn K (.ref cNoLine) "__class__" = some (some (.builtin "object.__class__"))) (em_NoLine : PySem.W.mroIn K cNoLine (.type "object") = some true) (w_NoLine : PySem.W.subIn K (.ref cNoLine) (.type "ValueError") = some true) (s_NoLine_NoDeed : PySem.W.subIn K (.ref cNoLine) (.ref cNoDeed) = some false) (q_NoLine_NoDeed : (Value.ref cNoLine == Value.ref cNoDeed) = false) (s_NoLine_NoDelay : PySem.W.subIn K (.ref cNoLine) (.ref cNoDelay) = some false) (q_NoLine_NoDelay : (Value.ref cNoLine == Value.ref cNoDelay) = false) (s_NoLine_NoKind : PySem.W.subIn K (.ref cNoLine) (.ref cNoKind) = some false) (q_NoLine_NoKind : (Value.ref cNoLine == Value.ref cNoKind) = false) (s_NoLine_NoLine : PySem.W.subIn K (.ref cNoLine) (.ref cNoLine) = some true) (s_NoLine_NoSize : PySem.W.subIn K (.ref cNoLine) (.ref cNoSize) = some false) (q_NoLine_NoSize : (Value.ref cNoLine == Value.ref cNoSize) = false) (s_NoLine_NoSources : PySem.W.subIn K (.ref cNoLine) (.ref cNoSources) = some false) (q_NoLine_NoSources : (Value.ref cNoLine == Value.ref cNoSources) = false) (s_NoLine_NoText : PySem.W.subIn K (.ref cNoLine) (.ref cNoText) = some false) (q_NoLine_NoText : (Value.ref cNoLine == Value.ref cNoText) = false) (s_NoLine_NoValues : PySem.W.subIn K (.ref cNoLine) (.ref cNoValues) = some false) (q_NoLine_NoValues : (Value.ref cNoLine == Value.ref cNoValues) = false) (s_NoLine_Ringed : PySem.W.subIn K (.ref cNoLine) (.ref cRinged) = some false) (q_NoLine_Ringed : (Value.ref cNoLine == Value.ref cRinged) = false) (s_NoDelay_SignalError : PySem.W.subIn K (.ref cNoDelay) (.ref cSignalError) = some true) (eg_NoDelay : PySem.W.findIn K (.ref cNoDelay) "__getattribute__" = some (some (.builtin "BaseException.__getattribute__"))) (ek_NoDelay : PySem.W.findIn K (.ref cNoDelay) "__getattr__" = some none) (ed_NoDelay : PySem.W.hasDictIn K cNoDelay = true) (ea_NoDelay : PySem.W.findIn K (.ref cNoDelay) "__class__" = some (some (.builtin "object.__class__"))) (em_NoDelay : PySem.W.mroIn K cNoDelay (.type "object") = some true) (w_NoDelay : PySem.W.subIn K (.ref cNoDelay) (.type "ValueError") = some true) (s_NoDelay_NoDeed : PySem.W.subIn K (.ref cNoDelay) (.ref cNoDeed) = some false) (q_NoDelay_NoDeed : (Value.ref cNoDelay == Value.ref cNoDeed) = false) (s_NoDelay_NoDelay : PySem.W.subIn K (.ref cNoDelay) (.ref cNoDelay) = some true) (s_NoDelay_NoKind : PySem.W.subIn K (.ref cNoDelay) (.ref cNoKind) = some false) (q_NoDelay_NoKind : (Value.ref cNoDelay == Value.ref cNoKind) = false) (s_NoDelay_NoLine : PySem.W.subIn K (.ref cNoDelay) (.ref cNoLine) = some false) (q_NoDelay_NoLine : (Value.ref cNoDelay == Value.ref cNoLine) = false) (s_NoDelay_NoSize : PySem.W.subIn K (.ref cNoDelay) (.ref cNoSize) = some false) (q_NoDelay_NoSize : (Value.ref cNoDelay == Value.ref cNoSize) = false) (s_NoDelay_NoSources : PySem.W.subIn K (.ref cNoDelay) (.ref cNoSources) = some false) (q_NoDelay_NoSources : (Value.ref cNoDelay == Value.ref cNoSources) = false) (s_NoDelay_NoText : PySem.W.subIn K (.ref cNoDelay) (.ref cNoText) = some false) (q_NoDelay_NoText : (Value.ref cNoDelay == Value.ref cNoText) = false) (s_NoDelay_NoValues : PySem.W.subIn K (.ref cNoDelay) (.ref cNoValues) = some false) (q_NoDelay_NoValues : (Value.ref cNoDelay == Value.ref cNoValues) = false) (s_NoDelay_Ringed : PySem.W.subIn K (.ref cNoDelay) (.ref cRinged) = some false) (q_NoDelay_Ringed : (Value.ref cNoDelay == Value.ref cRinged) = false) (s_NoValues_SignalError : PySem.W.subIn K (.ref cNoValues) (.ref cSignalError) = some true) (eg_NoValues : PySem.W.findIn K (.ref cNoValues) "__getattribute__" = some (some (.builtin "BaseException.__getattribute__"))) (ek_NoValues : PySem.W.findIn K (.ref cNoValues) "__getattr__" = some none) (ed_NoValues : PySem.W.hasDictIn K cNoValues = true) (ea_NoValues : PySem.W.findIn K (.ref cNoValues) "__class__" = some (some (.builtin "object.__class__"))) (em_NoValues : PySem.W.mroIn K cNoValues (.type "object") = some true) (w_NoValues : PySem.W.subIn K (.ref cNoValues) (.type "ValueError") = some true) (s_NoValues_NoDeed : PySem.W.subIn K (.ref cNoValues) (.ref cNoDeed) = some false) (q_NoValues_NoDeed : (Value.ref cNoValues == Value.ref cNoDeed) = false) (s_NoValues_NoDelay : PySem.W.subIn K (.ref cNoValues) (.ref cNoDelay) = some false) (q_NoValues_NoDelay : (Value.ref cNoValues == Value.ref cNoDelay) = false) (s_NoValues_NoKind : PySem.W.subIn K (.ref cNoValues) (.ref cNoKind) = some false) (q_NoValues_NoKind : (Value.ref cNoValues == Value.ref cNoKind) = false) (s_NoValues_NoLine : PySem.W.subIn K (.ref cNoValues) (.ref cNoLine) = some false) (q_NoValues_NoLine : (Value.ref cNoValues == Value.ref cNoLine) = false) (s_NoValues_NoSize : PySem.W.subIn K (.ref cNoValues) (.ref cNoSize) = some false) (q_NoValues_NoSize : (Value.ref cNoValues == Value.ref cNoSize) = false) (s_NoValues_NoSources : PySem.W.subIn K (.ref cNoValues) (.ref cNoSources) = some false) (q_NoValues_NoSources : (Value.ref cNoValues == Value.ref cNoSources) = false) (s_NoValues_NoText : PySem.W.subIn K (.ref cNoValues) (.ref cNoText) = some false) (q_NoValues_NoText : (Value.ref cNoValues == Value.ref cNoText) = false) (s_NoValues_NoValues : PySem.W.subIn K (.ref cNoValues) (.ref cNoValues) = some true) (s_NoValues_Ringed : PySem.W.subIn K (.ref cNoValues) (.ref cRinged) = some false) (q_NoValues_Ringed : (Value.ref cNoValues == Value.ref cRinged) = false) (s_Ringed_SignalError : PySem.W.subIn K (.ref cRinged) (.ref cSignalError) = some true) (eg_Ringed : PySem.W.findIn K (.ref cRinged) "__getattribute__" = some (some (.builtin "BaseException.__getattribute__"))) (ek_Ringed : PySem.W.findIn K (.ref cRinged) "__getattr__" = some none) (ed_Ringed : PySem.W.hasDictIn K cRinged = true) (ea_Ringed : PySem.W.findIn K (.ref cRinged) "__class__" = some (some (.builtin "object.__class__"))) (em_Ringed : PySem.W.mroIn K cRinged (.type "object") = some true) (w_Ringed : PySem.W.subIn K (.ref cRinged) (.type "ValueError") = some true) (s_Ringed_NoDeed : PySem.W.subIn K (.ref cRinged) (.ref cNoDeed) = some false) (q_Ringed_NoDeed : (Value.ref cRinged == Value.ref cNoDeed) = false) (s_Ringed_NoDelay : PySem.W.subIn K (.ref cRinged) (.ref cNoDelay) = some false) (q_Ringed_NoDelay : (Value.ref cRinged == Value.ref cNoDelay) = false) (s_Ringed_NoKind : PySem.W.subIn K (.ref cRinged) (.ref cNoKind) = some false) (q_Ringed_NoKind : (Value.ref cRinged == Value.ref cNoKind) = false) (s_Ringed_NoLine : PySem.W.subIn K (.ref cRinged) (.ref cNoLine) = some false) (q_Ringed_NoLine : (Value.ref cRinged == Value.ref cNoLine) = false) (s_Ringed_NoSize : PySem.W.subIn K (.ref cRinged) (.ref cNoSize) = some false) (q_Ringed_NoSize : (Value.ref cRinged == Value.ref cNoSize) = false) (s_Ringed_NoSources : PySem.W.subIn K (.ref cRinged) (.ref cNoSources) = some false) (q_Ringed_NoSources : (Value.ref cRinged == Value.ref cNoSources) = false) (s_Ringed_NoText : PySem.W.subIn K (.ref cRinged) (.ref cNoText) = some false) (q_Ringed_NoText : (Value.ref cRinged == Value.ref cNoText) = false) (s_Ringed_NoValues : PySem.W.subIn K (.ref cRinged) (.ref cNoValues) = some false) (q_Ringed_NoValues : (Value.ref cRinged == Value.ref cNoValues) = false) (s_Ringed_Ringed : PySem.W.subIn K (.ref cRinged) (.ref cRinged) = some true) (s_NoDeed_SignalError : PySem.W.subIn K (.ref cNoDeed) (.ref cSignalError) = some true) (eg_NoDeed : PySem.W.findIn K (.ref cNoDeed) "__getattribute__" = some (some (.builtin "BaseException.__getattribute__"))) (ek_NoDeed : PySem.W.findIn K (.ref cNoDeed) "__getattr__" = some none) (ed_NoDeed : PySem.W.hasDictIn K cNoDeed = true) (ea_NoDeed : PySem.W.findIn K (.ref cNoDeed) "__class__" = some (some (.builtin "object.__class__"))) (em_NoDeed : PySem.W.mroIn K cNoDeed (.type "object") = some true) (w_NoDeed : PySem.W.subIn K (.ref cNoDeed) (.type "ValueError") = some true) (s_NoDeed_NoDeed : PySem.W.subIn K (.ref cNoDeed) (.ref cNoDeed) = some true) (s_NoDeed_NoDelay : PySem.W.subIn K (.ref cNoDeed) (.ref cNoDelay) = some false) (q_NoDeed_NoDelay : (Value.ref cNoDeed == Value.ref cNoDelay) = false) (s_NoDeed_NoKind : PySem.W.subIn K (.ref cNoDeed) (.ref cNoKind) = some false) (q_NoDeed_NoKind : (Value.ref cNoDeed == Value.ref cNoKind) = false) (s_NoDeed_NoLine : PySem.W.subIn K (.ref cNoDeed) (.ref cNoLine) = some false) (q_NoDeed_NoLine : (Value.ref cNoDeed == Value.ref cNoLine) = false) (s_NoDeed_NoSize : PySem.W.subIn K (.ref cNoDeed) (.ref cNoSize) = some false) (q_NoDeed_NoSize : (Value.ref cNoDeed == Value.ref cNoSize) = false) (s_NoDeed_NoSources : PySem.W.subIn K (.ref cNoDeed) (.ref cNoSources) = some false) (q_NoDeed_NoSources : (Value.ref cNoDeed == Value.ref cNoSources) = false) (s_NoDeed_NoText : PySem.W.subIn K (.ref cNoDeed) (.ref cNoText) = some false) (q_NoDeed_NoText : (Value.ref cNoDeed == Value.ref cNoText) = false) (s_NoDeed_NoValues : PySem.W.subIn K (.ref cNoDeed) (.ref cNoValues) = some false) (q_NoDeed_NoValues : (Value.ref cNoDeed == Value.ref cNoValues) = false) (s_NoDeed_Ringed : PySem.W.subIn K (.ref cNoDeed) (.ref cRinged) = some false) (q_NoDeed_Ringed : (Value.ref cNoDeed == Value.ref cRinged) = false) (s_NoText_SignalError : PySem.W.subIn K (.ref cNoText) (.ref cSignalError) = some true) (eg_NoText : PySem.W.findIn K (.ref cNoText) "__getattribute__" = some (some (.builtin "BaseException.__getattribute__"))) (ek_NoText : PySem.W.findIn K (.ref cNoText) "__getattr__" = some none) (ed_NoText : PySem.W.hasDictIn K cNoText = true) (ea_NoText : PySem.W.findIn K (.ref cNoText) "__class__" = some (some (.builtin "object.__class__"))) (em_NoText : PySem.W.mroIn K cNoText (.type "object") = some true) (w_NoText : PySem.W.subIn K (.ref cNoText) (.type "ValueError") = some true) (s_NoText_NoDeed : PySem.W.subIn K (.ref cNoText) (.ref cNoDeed) = some false) (q_NoText_NoDeed : (Value.ref cNoText == Value.ref cNoDeed) = false) (s_NoText_NoDelay : PySem.W.subIn K (.ref cNoText) (.ref cNoDelay) = some false) (q_NoText_NoDelay : (Value.ref cNoText == Value.ref cNoDelay) = false) (s_NoText_NoKind : PySem.W.subIn K (.ref cNoText) (.ref cNoKind) = some false) (q_NoText_NoKind : (Value.ref cNoText == Value.ref cNoKind) = false) (s_NoText_NoLine : PySem.W.subIn K (.ref cNoText) (.ref cNoLine) = some false) (q_NoText_NoLine : (Value.ref cNoText == Value.ref cNoLine) = false) (s_NoText_NoSize : PySem.W.subIn K (.ref cNoText) (.ref cNoSize) = some false) (q_NoText_NoSize : (Value.ref cNoText == Value.ref cNoSize) = false) (s_NoText_NoSources : PySem.W.subIn K (.ref cNoText) (.ref cNoSources) = some false) (q_NoText_NoSources : (Value.ref cNoText == Value.ref cNoSources) = false) (s_NoText_NoText : PySem.W.subIn K (.ref cNoText) (.ref cNoText) = some true) (s_NoText_NoValues : PySem.W.subIn K (.ref cNoText) (.ref cNoValues) = some false) (q_NoText_NoValues : (Value.ref cNoText == Value.ref cNoValues) = false) (s_NoText_Ringed : PySem.W.subIn K (.ref cNoText) (.ref cRinged) = some false) (q_NoText_Ringed : (Value.ref cNoText == Value.ref cRinged) = false) : Txt K w mg ⟨cLEAST, cSignalError, cNoSize, cNoKind, cNoSources, cNoLine, cNoDelay, cNoValues, cRinged, cNoDeed, cNoText, 0⟩ := ⟨PySem.W.mg_none_of X G n_range, PySem.W.mg_none_of X G n_len, PySem.W.mg_none_of X G n_all, PySem.W.mg_none_of X G n_list, PySem.W.mg_none_of X G n_tuple, PySem.W.mg_none_of X G n_int, PySem.W.mg_none_of X G n_bool, PySem.W.mg_none_of X G n_str, PySem.W.mg_none_of X G n_isinstance, PySem.W.mg_none_of X G n_ValueError, ⟨_, PySem.W.mg_of X G c_MANY_SOURCES, tokc_MANY_SOURCES, rfl⟩, ⟨_, PySem.W.mg_of X G c_MANY_INPUTS, tokc_MANY_INPUTS, rfl⟩, ⟨_, PySem.W.mg_of X G c_MANY_GATES, tokc_MANY_GATES, rfl⟩, ⟨_, PySem.W.mg_of X G c_MOST_DELAY, tokc_MOST_DELAY, rfl⟩, ⟨_, PySem.W.mg_of X G c_MANY_FIGURES, tokc_MANY_FIGURES, rfl⟩, ⟨_, PySem.W.mg_of X G c_FIGURES, tokc_FIGURES, rfl⟩, ⟨_, PySem.W.mg_of X G c_LETTERS, tokc_LETTERS, rfl⟩, PySem.W.mg_of X G aL, least_at lL wL, PySem.W.mg_of X G a_SignalError, x_SignalError, k_SignalError, b_SignalError, t_SignalError, PySem.W.mg_of X G a_NoSize, x_NoSize, k_NoSize, b_NoSize, t_NoSize, PySem.W.mg_of X G a_NoKind, x_NoKind, k_NoKind, b_NoKind, t_NoKind, PySem.W.mg_of X G a_NoSources, x_NoSources, k_NoSources, b_NoSources, t_NoSources, PySem.W.mg_of X G a_NoLine, x_NoLine, k_NoLine, b_NoLine, t_NoLine, PySem.W.mg_of X G a_NoDelay, x_NoDelay, k_NoDelay, b_NoDelay, t_NoDelay, PySem.W.mg_of X G a_NoValues, x_NoValues, k_NoValues, b_NoValues, t_NoValues, PySem.W.mg_of X G a_Ringed, x_Ringed, k_Ringed, b_Ringed, t_Ringed, PySem.W.mg_of X G a_NoDeed, x_NoDeed, k_NoDeed, b_NoDeed, t_NoDeed, PySem.W.mg_of X G a_NoText, x_NoText, k_NoText, b_NoText, t_NoText, exm_of b_SignalError i_SignalError t_SignalError s_NoSize_SignalError, ⟨eg_NoSize, ek_NoSize, b_NoSize, ed_NoSize, ea_NoSize, e_hn, e_ht, em_NoSize⟩, kit_ve w_NoSize, kit_ref i_NoDeed t_NoDeed s_NoSize_NoDeed (fun h => absurd h (by rw [q_NoSize_NoDeed]; decide)), kit_ref i_NoDelay t_NoDelay s_NoSize_NoDelay (fun h => absurd h (by rw [q_NoSize_NoDelay]; decide)), kit_ref i_NoKind t_NoKind s_NoSize_NoKind (fun h => absurd h (by rw [q_NoSize_NoKind]; decide)), kit_ref i_NoLine t_NoLine s_NoSize_NoLine (fun h => absurd h (by rw [q_NoSize_NoLine]; decide)), kit_ref i_NoSize t_NoSize s_NoSize_NoSize (fun _ => rfl), kit_ref i_NoSources t_NoSources s_NoSize_NoSources (fun h => absurd h (by rw [q_NoSize_NoSources]; decide)), kit_ref i_NoText t_NoText s_NoSize_NoText (fun h => absurd h (by rw [q_NoSize_NoText]; decide)), kit_ref i_NoValues t_NoValues s_NoSize_NoValues (fun h => absurd h (by rw [q_NoSize_NoValues]; decide)), kit_ref i_Ringed t_Ringed s_NoSize_Ringed (fun h => absurd h (by rw [q_NoSize_Ringed]; decide)), exm_of b_SignalError i_SignalError t_SignalError s_NoKind_SignalError, ⟨eg_NoKind, ek_NoKind, b_NoKind, ed_NoKind, ea_NoKind, e_hn, e_ht, em_NoKind⟩, kit_ve w_NoKind, kit_ref i_NoDeed t_NoDeed s_NoKind_NoDeed (fun h => absurd h (by rw [q_NoKind_NoDeed]; decide)), kit_ref i_NoDelay t_NoDelay s_NoKind_NoDelay (fun h => absurd h (by rw [q_NoKind_NoDelay]; decide)), kit_ref i_NoKind t_NoKind s_NoKind_NoKind (fun _ => rfl), kit_ref i_NoLine t_NoLine s_NoKind_NoLine (fun h => absurd h (by rw [q_NoKind_NoLine]; decide)), kit_ref i_NoSize t_NoSize s_NoKind_NoSize (fun h => absurd h (by rw [q_NoKind_NoSize]; decide)), kit_ref i_NoSources t_NoSources s_NoKind_NoSources (fun h => absurd h (by rw [q_NoKind_NoSources]; decide)), kit_ref i_NoText t_NoText s_NoKind_NoText (fun h => absurd h (by rw [q_NoKind_NoText]; decide)), kit_ref i_NoValues t_NoValues s_NoKind_NoValues (fun h => absurd h (by rw [q_NoKind_NoValues]; decide)), kit_ref i_Ringed t_Ringed s_NoKind_Ringed (fun h => absurd h (by rw [q_NoKind_Ringed]; decide)), exm_of b_SignalError i_SignalError t_SignalError s_NoSources_SignalError, ⟨eg_NoSources, ek_NoSources, b_NoSources, ed_NoSources, ea_NoSources, e_hn, e_ht, em_NoSources⟩, kit_ve w_NoSources, kit_ref i_NoDeed t_NoDeed s_NoSources_NoDeed (fun h => absurd h (by rw [q_NoSources_NoDeed]; decide)), kit_ref i_NoDelay t_NoDelay s_NoSources_NoDelay (fun h => absurd h (by rw [q_NoSources_NoDelay]; decide)), kit_ref i_NoKind t_NoKind s_NoSources_NoKind (fun h => absurd h (by rw [q_NoSources_NoKind]; decide)), kit_ref i_NoLine t_NoLine s_NoSources_NoLine (fun h => absurd h (by rw [q_NoSources_NoLine]; decide)), kit_ref i_NoSize t_NoSize s_NoSources_NoSize (fun h => absurd h (by rw [q_NoSources_NoSize]; decide)), kit_ref i_NoSources t_NoSources s_NoSources_NoSources (fun _ => rfl), kit_ref i_NoText t_NoText s_NoSources_NoText (fun h => absurd h (by rw [q_NoSources_NoText]; decide)), kit_ref i_NoValues t_NoValues s_NoSources_NoValues (fun h => absurd h (by rw [q_NoSources_NoValues]; decide)), kit_ref i_Ringed t_Ringed s_NoSources_Ringed (fun h => absurd h (by rw [q_NoSources_Ringed]; decide)), exm_of b_SignalError i_SignalError t_SignalError s_NoLine_SignalError, ⟨eg_NoLine, ek_NoLine, b_NoLine, ed_NoLine, ea_NoLine, e_hn, e_ht, em_NoLine⟩, kit_ve w_NoLine, kit_ref i_NoDeed t_NoDeed s_NoLine_NoDeed (fun h => absurd h (by rw [q_NoLine_NoDeed]; decide)), kit_ref i_NoDelay t_NoDelay s_NoLine_NoDelay (fun h => absurd h (by rw [q_NoLine_NoDelay]; decide)), kit_ref i_NoKind t_NoKind s_NoLine_NoKind (fun h => absurd h (by rw [q_NoLine_NoKind]; decide)), kit_ref i_NoLine t_NoLine s_NoLine_NoLine (fun _ => rfl), kit_ref i_NoSize t_NoSize s_NoLine_NoSize (fun h => absurd h (by rw [q_NoLine_NoSize]; decide)), kit_ref i_NoSources t_NoSources s_NoLine_NoSources (fun h => absurd h (by rw [q_NoLine_NoSources]; decide)), kit_ref i_NoText t_NoText s_NoLine_NoText (fun h => absurd h (by rw [q_NoLine_NoText]; decide)), kit_ref i_NoValues t_NoValues s_NoLine_NoValues (fun h => absurd h (by rw [q_NoLine_NoValues]; decide)), kit_ref i_Ringed t_Ringed s_NoLine_Ringed (fun h => absurd h (by rw [q_NoLine_Ringed]; decide)), exm_of b_SignalError i_SignalError t_SignalError s_NoDelay_SignalError, ⟨eg_NoDelay, ek_NoDelay, b_NoDelay, ed_NoDelay, ea_NoDelay, e_hn, e_ht, em_NoDelay⟩, kit_ve w_NoDelay, kit_ref i_NoDeed t_NoDeed s_NoDelay_NoDeed (fun h => absurd h (by rw [q_NoDelay_NoDeed]; decide)), kit_ref i_NoDelay t_NoDelay s_NoDelay_NoDelay (fun _ => rfl), kit_ref i_NoKind t_NoKind s_NoDelay_NoKind (fun h => absurd h (by rw [q_NoDelay_NoKind]; decide)), kit_ref i_NoLine t_NoLine s_NoDelay_NoLine (fun h => absurd h (by rw [q_NoDelay_NoLine]; decide)), kit_ref i_NoSize t_NoSize s_NoDelay_NoSize (fun h => absurd h (by rw [q_NoDelay_NoSize]; decide)), kit_ref i_NoSources t_NoSources s_NoDelay_NoSources (fun h => absurd h (by rw [q_NoDelay_NoSources]; decide)), kit_ref i_NoText t_NoText s_NoDelay_NoText (fun h => absurd h (by rw [q_NoDelay_NoText]; decide)), kit_ref i_NoValues t_NoValues s_NoDelay_NoValues (fun h => absurd h (by rw [q_NoDelay_NoValues]; decide)), kit_ref i_Ringed t_Ringed s_NoDelay_Ringed (fun h => absurd h (by rw [q_NoDelay_Ringed]; decide)), exm_of b_SignalError i_SignalError t_SignalError s_NoValues_SignalError, ⟨eg_NoValues, ek_NoValues, b_NoValues, ed_NoValues, ea_NoValues, e_hn, e_ht, em_NoValues⟩, kit_ve w_NoValues, kit_ref i_NoDeed t_NoDeed s_NoValues_NoDeed (fun h => absurd h (by rw [q_NoValues_NoDeed]; decide)), kit_ref i_NoDelay t_NoDelay s_NoValues_NoDelay (fun h => absurd h (by rw [q_NoValues_NoDelay]; decide)), kit_ref i_NoKind t_NoKind s_NoValues_NoKind (fun h => absurd h (by rw [q_NoValues_NoKind]; decide)), kit_ref i_NoLine t_NoLine s_NoValues_NoLine (fun h => absurd h (by rw [q_NoValues_NoLine]; decide)), kit_ref i_NoSize t_NoSize s_NoValues_NoSize (fun h => absurd h (by rw [q_NoValues_NoSize]; decide)), kit_ref i_NoSources t_NoSources s_NoValues_NoSources (fun h => absurd h (by rw [q_NoValues_NoSources]; decide)), kit_ref i_NoText t_NoText s_NoValues_NoText (fun h => absurd h (by rw [q_NoValues_NoText]; decide)), kit_ref i_NoValues t_NoValues s_NoValues_NoValues (fun _ => rfl), kit_ref i_Ringed t_Ringed s_NoValues_Ringed (fun h => absurd h (by rw [q_NoValues_Ringed]; decide)), exm_of b_SignalError i_SignalError t_SignalError s_Ringed_SignalError, ⟨eg_Ringed, ek_Ringed, b_Ringed, ed_Ringed, ea_Ringed, e_hn, e_ht, em_Ringed⟩, kit_ve w_Ringed, kit_ref i_NoDeed t_NoDeed s_Ringed_NoDeed (fun h => absurd h (by rw [q_Ringed_NoDeed]; decide)), kit_ref i_NoDelay t_NoDelay s_Ringed_NoDelay (fun h => absurd h (by rw [q_Ringed_NoDelay]; decide)), kit_ref i_NoKind t_NoKind s_Ringed_NoKind (fun h => absurd h (by rw [q_Ringed_NoKind]; decide)), kit_ref i_NoLine t_NoLine s_Ringed_NoLine (fun h => absurd h (by rw [q_Ringed_NoLine]; decide)), kit_ref i_NoSize t_NoSize s_Ringed_NoSize (fun h => absurd h (by rw [q_Ringed_NoSize]; decide)), kit_ref i_NoSources t_NoSources s_Ringed_NoSources (fun h => absurd h (by rw [q_Ringed_NoSources]; decide)), kit_ref i_NoText t_NoText s_Ringed_NoText (fun h => absurd h (by rw [q_Ringed_NoText]; decide)), kit_ref i_NoValues t_NoValues s_Ringed_NoValues (fun h => absurd h (by rw [q_Ringed_NoValues]; decide)), kit_ref i_Ringed t_Ringed s_Ringed_Ringed (fun _ => rfl), exm_of b_SignalError i_SignalError t_SignalError s_NoDeed_SignalError, ⟨eg_NoDeed, ek_NoDeed, b_NoDeed, ed_NoDeed, ea_NoDeed, e_hn, e_ht, em_NoDeed⟩, kit_ve w_NoDeed, kit_ref i_NoDeed t_NoDeed s_NoDeed_NoDeed (fun _ => rfl), kit_ref i_NoDelay t_NoDelay s_NoDeed_NoDelay (fun h => absurd h (by rw [q_NoDeed_NoDelay]; decide)), kit_ref i_NoKind t_NoKind s_NoDeed_NoKind (fun h => absurd h (by rw [q_NoDeed_NoKind]; decide)), kit_ref i_NoLine t_NoLine s_NoDeed_NoLine (fun h => absurd h (by rw [q_NoDeed_NoLine]; decide)), kit_ref i_NoSize t_NoSize s_NoDeed_NoSize (fun h => absurd h (by rw [q_NoDeed_NoSize]; decide)), kit_ref i_NoSources t_NoSources s_NoDeed_NoSources (fun h => absurd h (by rw [q_NoDeed_NoSources]; decide)), kit_ref i_NoText t_NoText s_NoDeed_NoText (fun h => absurd h (by rw [q_NoDeed_NoText]; decide)), kit_ref i_NoValues t_NoValues s_NoDeed_NoValues (fun h => absurd h (by rw [q_NoDeed_NoValues]; decide)), kit_ref i_Ringed t_Ringed s_NoDeed_Ringed (fun h => absurd h (by rw [q_NoDeed_Ringed]; decide)), exm_of b_SignalError i_SignalError t_SignalError s_NoText_SignalError, ⟨eg_NoText, ek_NoText, b_NoText, ed_NoText, ea_NoText, e_hn, e_ht, em_NoText⟩, kit_ve w_NoText, kit_ref i_NoDeed t_NoDeed s_NoText_NoDeed (fun h => absurd h (by rw [q_NoText_NoDeed]; decide)), kit_ref i_NoDelay t_NoDelay s_NoText_NoDelay (fun h => absurd h (by rw [q_NoText_NoDelay]; decide)), kit_ref i_NoKind t_NoKind s_NoText_NoKind (fun h => absurd h (by rw [q_NoText_NoKind]; decide)), kit_ref i_NoLine t_NoLine s_NoText_NoLine (fun h => absurd h (by rw [q_NoText_NoLine]; decide)), kit_ref i_NoSize t_NoSize s_NoText_NoSize (fun h => absurd h (by rw [q_NoText_NoSize]; decide)), kit_ref i_NoSources t_NoSources s_NoText_NoSources (fun h => absurd h (by rw [q_NoText_NoSources]; decide)), kit_ref i_NoText t_NoText s_NoText_NoText (fun _ => rfl), kit_ref i_NoValues t_NoValues s_NoText_NoValues (fun h => absurd h (by rw [q_NoText_NoValues]; decide)), kit_ref i_Ringed t_Ringed s_NoText_Ringed (fun h => absurd h (by rw [q_NoText_Ringed]; decide))⟩
end
end Sg
open PySem PySem.W PyProof.Rows in
set_option maxRecDepth 100000 in
set_option maxHeartbeats 0 in
theorem PySem.Challenge.cw_signalgraph_k14_written_and_read_holds : PySem.Challenge.rw_signalgraph_k14_written_and_read.Holds := by
  w_on; o_law; k_head; (case hw => w_witness2)
  k_fill
  refine L2.walk_of (n := 63) (k := 7) (x := "_law_script") (CX := fun w => L2.CX PySem.Challenge.rw_signalgraph_k14_written_and_read.prog w) (sp := fun w vs H Q E => ∃ (a : Addr) (ns : List Int), vs = [.ref a] ∧ L2.SqL _ H a (ns.map L2.V.int) ∧ ns.length ≤ 63 ∧ ∀ H', Q (.bl true) H') rfl (by decide) rfl ⟨rfl, by decide, by decide⟩ (fun w h Y => PySem.W.kIn_of Y) ?F (fun _ _ a ns hl _ hS => ⟨a, ns, rfl, hS, hl, fun _ => rfl⟩) ?Z
  case Z =>
    intro w H s e s' z
    obtain ⟨_, _, _, _, _, _, _, _, _, _, _, _, z⟩ := z
    exact z.elim
  case F =>
    intro w mg fa h KX G hmg
    refine' Sg.law_all (Sg.txt_of (w := w) KX G ?aL ?lL ?wL ?a_SignalError ?x_SignalError ?k_SignalError ?b_SignalError ?t_SignalError ?a_NoSize ?x_NoSize ?k_NoSize ?b_NoSize ?t_NoSize ?a_NoKind ?x_NoKind ?k_NoKind ?b_NoKind ?t_NoKind ?a_NoSources ?x_NoSources ?k_NoSources ?b_NoSources ?t_NoSources ?a_NoLine ?x_NoLine ?k_NoLine ?b_NoLine ?t_NoLine ?a_NoDelay ?x_NoDelay ?k_NoDelay ?b_NoDelay ?t_NoDelay ?a_NoValues ?x_NoValues ?k_NoValues ?b_NoValues ?t_NoValues ?a_Ringed ?x_Ringed ?k_Ringed ?b_Ringed ?t_Ringed ?a_NoDeed ?x_NoDeed ?k_NoDeed ?b_NoDeed ?t_NoDeed ?a_NoText ?x_NoText ?k_NoText ?b_NoText ?t_NoText ?n_range ?n_len ?n_all ?n_list ?n_tuple ?n_int ?n_bool ?n_str ?n_isinstance ?n_ValueError ?c_MANY_SOURCES ?c_MANY_INPUTS ?c_MANY_GATES ?c_MOST_DELAY ?c_MANY_FIGURES ?c_FIGURES ?c_LETTERS ?s_NoSize_SignalError ?i_SignalError ?e_hn ?e_ht ?eg_NoSize ?ek_NoSize ?ed_NoSize ?ea_NoSize ?em_NoSize ?w_NoSize ?s_NoSize_NoDeed ?i_NoDeed ?q_NoSize_NoDeed ?s_NoSize_NoDelay ?i_NoDelay ?q_NoSize_NoDelay ?s_NoSize_NoKind ?i_NoKind ?q_NoSize_NoKind ?s_NoSize_NoLine ?i_NoLine ?q_NoSize_NoLine ?s_NoSize_NoSize ?i_NoSize ?s_NoSize_NoSources ?i_NoSources ?q_NoSize_NoSources ?s_NoSize_NoText ?i_NoText ?q_NoSize_NoText ?s_NoSize_NoValues ?i_NoValues ?q_NoSize_NoValues ?s_NoSize_Ringed ?i_Ringed ?q_NoSize_Ringed ?s_NoKind_SignalError ?eg_NoKind ?ek_NoKind ?ed_NoKind ?ea_NoKind ?em_NoKind ?w_NoKind ?s_NoKind_NoDeed ?q_NoKind_NoDeed ?s_NoKind_NoDelay ?q_NoKind_NoDelay ?s_NoKind_NoKind ?s_NoKind_NoLine ?q_NoKind_NoLine ?s_NoKind_NoSize ?q_NoKind_NoSize ?s_NoKind_NoSources ?q_NoKind_NoSources ?s_NoKind_NoText ?q_NoKind_NoText ?s_NoKind_NoValues ?q_NoKind_NoValues ?s_NoKind_Ringed ?q_NoKind_Ringed ?s_NoSources_SignalError ?eg_NoSources ?ek_NoSources ?ed_NoSources ?ea_NoSources ?em_NoSources ?w_NoSources ?s_NoSources_NoDeed ?q_NoSources_NoDeed ?s_NoSources_NoDelay ?q_NoSources_NoDelay ?s_NoSources_NoKind ?q_NoSources_NoKind ?s_NoSources_NoLine ?q_NoSources_NoLine ?s_NoSources_NoSize ?q_NoSources_NoSize ?s_NoSources_NoSources ?s_NoSources_NoText ?q_NoSources_NoText ?s_NoSources_NoValues ?q_NoSources_NoValues ?s_NoSources_Ringed ?q_NoSources_Ringed ?s_NoLine_SignalError ?eg_NoLine ?ek_NoLine ?ed_NoLine ?ea_NoLine ?em_NoLine ?w_NoLine ?s_NoLine_NoDeed ?q_NoLine_NoDeed ?s_NoLine_NoDelay ?q_NoLine_NoDelay ?s_NoLine_NoKind ?q_NoLine_NoKind ?s_NoLine_NoLine ?s_NoLine_NoSize ?q_NoLine_NoSize ?s_NoLine_NoSources ?q_NoLine_NoSources ?s_NoLine_NoText ?q_NoLine_NoText ?s_NoLine_NoValues ?q_NoLine_NoValues ?s_NoLine_Ringed ?q_NoLine_Ringed ?s_NoDelay_SignalError ?eg_NoDelay ?ek_NoDelay ?ed_NoDelay ?ea_NoDelay ?em_NoDelay ?w_NoDelay ?s_NoDelay_NoDeed ?q_NoDelay_NoDeed ?s_NoDelay_NoDelay ?s_NoDelay_NoKind ?q_NoDelay_NoKind ?s_NoDelay_NoLine ?q_NoDelay_NoLine ?s_NoDelay_NoSize ?q_NoDelay_NoSize ?s_NoDelay_NoSources ?q_NoDelay_NoSources ?s_NoDelay_NoText ?q_NoDelay_NoText ?s_NoDelay_NoValues ?q_NoDelay_NoValues ?s_NoDelay_Ringed ?q_NoDelay_Ringed ?s_NoValues_SignalError ?eg_NoValues ?ek_NoValues ?ed_NoValues ?ea_NoValues ?em_NoValues ?w_NoValues ?s_NoValues_NoDeed ?q_NoValues_NoDeed ?s_NoValues_NoDelay ?q_NoValues_NoDelay ?s_NoValues_NoKind ?q_NoValues_NoKind ?s_NoValues_NoLine ?q_NoValues_NoLine ?s_NoValues_NoSize ?q_NoValues_NoSize ?s_NoValues_NoSources ?q_NoValues_NoSources ?s_NoValues_NoText ?q_NoValues_NoText ?s_NoValues_NoValues ?s_NoValues_Ringed ?q_NoValues_Ringed ?s_Ringed_SignalError ?eg_Ringed ?ek_Ringed ?ed_Ringed ?ea_Ringed ?em_Ringed ?w_Ringed ?s_Ringed_NoDeed ?q_Ringed_NoDeed ?s_Ringed_NoDelay ?q_Ringed_NoDelay ?s_Ringed_NoKind ?q_Ringed_NoKind ?s_Ringed_NoLine ?q_Ringed_NoLine ?s_Ringed_NoSize ?q_Ringed_NoSize ?s_Ringed_NoSources ?q_Ringed_NoSources ?s_Ringed_NoText ?q_Ringed_NoText ?s_Ringed_NoValues ?q_Ringed_NoValues ?s_Ringed_Ringed ?s_NoDeed_SignalError ?eg_NoDeed ?ek_NoDeed ?ed_NoDeed ?ea_NoDeed ?em_NoDeed ?w_NoDeed ?s_NoDeed_NoDeed ?s_NoDeed_NoDelay ?q_NoDeed_NoDelay ?s_NoDeed_NoKind ?q_NoDeed_NoKind ?s_NoDeed_NoLine ?q_NoDeed_NoLine ?s_NoDeed_NoSize ?q_NoDeed_NoSize ?s_NoDeed_NoSources ?q_NoDeed_NoSources ?s_NoDeed_NoText ?q_NoDeed_NoText ?s_NoDeed_NoValues ?q_NoDeed_NoValues ?s_NoDeed_Ringed ?q_NoDeed_Ringed ?s_NoText_SignalError ?eg_NoText ?ek_NoText ?ed_NoText ?ea_NoText ?em_NoText ?w_NoText ?s_NoText_NoDeed ?q_NoText_NoDeed ?s_NoText_NoDelay ?q_NoText_NoDelay ?s_NoText_NoKind ?q_NoText_NoKind ?s_NoText_NoLine ?q_NoText_NoLine ?s_NoText_NoSize ?q_NoText_NoSize ?s_NoText_NoSources ?q_NoText_NoSources ?s_NoText_NoText ?s_NoText_NoValues ?q_NoText_NoValues ?s_NoText_Ringed ?q_NoText_Ringed) (Sg.def_at KX G ?a0 ?l0 ?c0 ?k0 fun _ _ _ _ _ _ us hl => match us, hl with | [_, _], _ => rfl) (Sg.def_at KX G ?a1 ?l1 ?c1 ?k1 fun _ _ _ _ _ _ us hl => match us, hl with | [_], _ => rfl) (Sg.def_at KX G ?a2 ?l2 ?c2 ?k2 fun _ _ _ _ _ _ us hl => match us, hl with | [_, _, _], _ => rfl) (Sg.def_at KX G ?a3 ?l3 ?c3 ?k3 fun _ _ _ _ _ _ us hl => match us, hl with | [_, _, _], _ => rfl) (Sg.def_at KX G ?a4 ?l4 ?c4 ?k4 fun _ _ _ _ _ _ us hl => match us, hl with | [_, _, _], _ => rfl) (Sg.def_at KX G ?a5 ?l5 ?c5 ?k5 fun _ _ _ _ _ _ us hl => match us, hl with | [_, _, _], _ => rfl) (Sg.def_at KX G ?a6 ?l6 ?c6 ?k6 fun _ _ _ _ _ _ us hl => match us, hl with | [_, _, _], _ => rfl) (Sg.def_at KX G ?a7 ?l7 ?c7 ?k7 fun _ _ _ _ _ _ us hl => match us, hl with | [_, _, _], _ => rfl) (Sg.def_at KX G ?a8 ?l8 ?c8 ?k8 fun _ _ _ _ _ _ us hl => match us, hl with | [_, _], _ => rfl) (Sg.def_at KX G ?a9 ?l9 ?c9 ?k9 fun _ _ _ _ _ _ us hl => match us, hl with | [_], _ => rfl) (Sg.def_at KX G ?a10 ?l10 ?c10 ?k10 fun _ _ _ _ _ _ us hl => match us, hl with | [_], _ => rfl) (Sg.def_at KX G ?a11 ?l11 ?c11 ?k11 fun _ _ _ _ _ _ us hl => match us, hl with | [_], _ => rfl) (Sg.def_at KX G ?a12 ?l12 ?c12 ?k12 fun _ _ _ _ _ _ us hl => match us, hl with | [_], _ => rfl) (Sg.def_at KX G ?a13 ?l13 ?c13 ?k13 fun _ _ _ _ _ _ us hl => match us, hl with | [_], _ => rfl) (Sg.def_at KX G ?a14 ?l14 ?c14 ?k14 fun _ _ _ _ _ _ us hl => match us, hl with | [_, _], _ => rfl) (Sg.def_at KX G ?a15 ?l15 ?c15 ?k15 fun _ _ _ _ _ _ us hl => match us, hl with | [_], _ => rfl) (Sg.def_at KX G ?a16 ?l16 ?c16 ?k16 fun _ _ _ _ _ _ us hl => match us, hl with | [_], _ => rfl) (Sg.def_at KX G ?a17 ?l17 ?c17 ?k17 fun _ _ _ _ _ _ us hl => match us, hl with | [_], _ => rfl) (Sg.def_at KX G ?a18 ?l18 ?c18 ?k18 fun _ _ _ _ _ _ us hl => match us, hl with | [_, _], _ => rfl) (Sg.def_at KX G ?a19 ?l19 ?c19 ?k19 fun _ _ _ _ _ _ us hl => match us, hl with | [_], _ => rfl) (Sg.def_at KX G ?a20 ?l20 ?c20 ?k20 fun _ _ _ _ _ _ us hl => match us, hl with | [_], _ => rfl) (Sg.def_at KX G ?a21 ?l21 ?c21 ?k21 fun _ _ _ _ _ _ us hl => match us, hl with | [_], _ => rfl) (Sg.def_at KX G ?a22 ?l22 ?c22 ?k22 fun _ _ _ _ _ _ us hl => match us, hl with | [_], _ => rfl) (Sg.def_at KX G ?a23 ?l23 ?c23 ?k23 fun _ _ _ _ _ _ us hl => match us, hl with | [_], _ => rfl) (Sg.def_at KX G ?a24 ?l24 ?c24 ?k24 fun _ _ _ _ _ _ us hl => match us, hl with | [_, _], _ => rfl) (Sg.def_at KX G ?a25 ?l25 ?c25 ?k25 fun _ _ _ _ _ _ us hl => match us, hl with | [_], _ => rfl) (Sg.def_at KX G ?a26 ?l26 ?c26 ?k26 fun _ _ _ _ _ _ us hl => match us, hl with | [_], _ => rfl) (Sg.def_at KX G ?a27 ?l27 ?c27 ?k27 fun _ _ _ _ _ _ us hl => match us, hl with | [_, _], _ => rfl) (Sg.def_at KX G ?a28 ?l28 ?c28 ?k28 fun _ _ _ _ _ _ us hl => match us, hl with | [_], _ => rfl) (Sg.def_at KX G ?a29 ?l29 ?c29 ?k29 fun _ _ _ _ _ _ us hl => match us, hl with | [_], _ => rfl) (Sg.def_at KX G ?a30 ?l30 ?c30 ?k30 fun _ _ _ _ _ _ us hl => match us, hl with | [_], _ => rfl) (Sg.def_at KX G ?a31 ?l31 ?c31 ?k31 fun _ _ _ _ _ _ us hl => match us, hl with | [_], _ => rfl) hmg
    (case aL => k_is)
    (case lL => k_is)
    (case wL => rfl)
    (case a_SignalError => k_is)
    (case x_SignalError => k_exc)
    (case k_SignalError => k_is)
    (case b_SignalError => k_is)
    (case t_SignalError => k_is)
    (case a_NoSize => k_is)
    (case x_NoSize => k_exc)
    (case k_NoSize => k_is)
    (case b_NoSize => k_is)
    (case t_NoSize => k_is)
    (case a_NoKind => k_is)
    (case x_NoKind => k_exc)
    (case k_NoKind => k_is)
    (case b_NoKind => k_is)
    (case t_NoKind => k_is)
    (case a_NoSources => k_is)
    (case x_NoSources => k_exc)
    (case k_NoSources => k_is)
    (case b_NoSources => k_is)
    (case t_NoSources => k_is)
    (case a_NoLine => k_is)
    (case x_NoLine => k_exc)
    (case k_NoLine => k_is)
    (case b_NoLine => k_is)
    (case t_NoLine => k_is)
    (case a_NoDelay => k_is)
    (case x_NoDelay => k_exc)
    (case k_NoDelay => k_is)
    (case b_NoDelay => k_is)
    (case t_NoDelay => k_is)
    (case a_NoValues => k_is)
    (case x_NoValues => k_exc)
    (case k_NoValues => k_is)
    (case b_NoValues => k_is)
    (case t_NoValues => k_is)
    (case a_Ringed => k_is)
    (case x_Ringed => k_exc)
    (case k_Ringed => k_is)
    (case b_Ringed => k_is)
    (case t_Ringed => k_is)
    (case a_NoDeed => k_is)
    (case x_NoDeed => k_exc)
    (case k_NoDeed => k_is)
    (case b_NoDeed => k_is)
    (case t_NoDeed => k_is)
    (case a_NoText => k_is)
    (case x_NoText => k_exc)
    (case k_NoText => k_is)
    (case b_NoText => k_is)
    (case t_NoText => k_is)
    (case n_range => k_is)
    (case n_len => k_is)
    (case n_all => k_is)
    (case n_list => k_is)
    (case n_tuple => k_is)
    (case n_int => k_is)
    (case n_bool => k_is)
    (case n_str => k_is)
    (case n_isinstance => k_is)
    (case n_ValueError => k_is)
    (case c_MANY_SOURCES => k_is)
    (case c_MANY_INPUTS => k_is)
    (case c_MANY_GATES => k_is)
    (case c_MOST_DELAY => k_is)
    (case c_MANY_FIGURES => k_is)
    (case c_FIGURES => k_is)
    (case c_LETTERS => k_is)
    (case s_NoSize_SignalError => k_is)
    (case i_SignalError => k_is)
    (case e_hn => k_is)
    (case e_ht => k_is)
    (case eg_NoSize => k_is)
    (case ek_NoSize => k_is)
    (case ed_NoSize => k_is)
    (case ea_NoSize => k_is)
    (case em_NoSize => k_is)
    (case w_NoSize => k_is)
    (case s_NoSize_NoDeed => k_is)
    (case i_NoDeed => k_is)
    (case q_NoSize_NoDeed => rfl)
    (case s_NoSize_NoDelay => k_is)
    (case i_NoDelay => k_is)
    (case q_NoSize_NoDelay => rfl)
    (case s_NoSize_NoKind => k_is)
    (case i_NoKind => k_is)
    (case q_NoSize_NoKind => rfl)
    (case s_NoSize_NoLine => k_is)
    (case i_NoLine => k_is)
    (case q_NoSize_NoLine => rfl)
    (case s_NoSize_NoSize => first | rfl | k_is)
    (case i_NoSize => k_is)
    (case s_NoSize_NoSources => k_is)
    (case i_NoSources => k_is)
    (case q_NoSize_NoSources => rfl)
    (case s_NoSize_NoText => k_is)
    (case i_NoText => k_is)
    (case q_NoSize_NoText => rfl)
    (case s_NoSize_NoValues => k_is)
    (case i_NoValues => k_is)
    (case q_NoSize_NoValues => rfl)
    (case s_NoSize_Ringed => k_is)
    (case i_Ringed => k_is)
    (case q_NoSize_Ringed => rfl)
    (case s_NoKind_SignalError => k_is)
    (case eg_NoKind => k_is)
    (case ek_NoKind => k_is)
    (case ed_NoKind => k_is)
    (case ea_NoKind => k_is)
    (case em_NoKind => k_is)
    (case w_NoKind => k_is)
    (case s_NoKind_NoDeed => k_is)
    (case q_NoKind_NoDeed => rfl)
    (case s_NoKind_NoDelay => k_is)
    (case q_NoKind_NoDelay => rfl)
    (case s_NoKind_NoKind => first | rfl | k_is)
    (case s_NoKind_NoLine => k_is)
    (case q_NoKind_NoLine => rfl)
    (case s_NoKind_NoSize => k_is)
    (case q_NoKind_NoSize => rfl)
    (case s_NoKind_NoSources => k_is)
    (case q_NoKind_NoSources => rfl)
    (case s_NoKind_NoText => k_is)
    (case q_NoKind_NoText => rfl)
    (case s_NoKind_NoValues => k_is)
    (case q_NoKind_NoValues => rfl)
    (case s_NoKind_Ringed => k_is)
    (case q_NoKind_Ringed => rfl)
    (case s_NoSources_SignalError => k_is)
    (case eg_NoSources => k_is)
    (case ek_NoSources => k_is)
    (case ed_NoSources => k_is)
    (case ea_NoSources => k_is)
    (case em_NoSources => k_is)
    (case w_NoSources => k_is)
    (case s_NoSources_NoDeed => k_is)
    (case q_NoSources_NoDeed => rfl)
    (case s_NoSources_NoDelay => k_is)
    (case q_NoSources_NoDelay => rfl)
    (case s_NoSources_NoKind => k_is)
    (case q_NoSources_NoKind => rfl)
    (case s_NoSources_NoLine => k_is)
    (case q_NoSources_NoLine => rfl)
    (case s_NoSources_NoSize => k_is)
    (case q_NoSources_NoSize => rfl)
    (case s_NoSources_NoSources => first | rfl | k_is)
    (case s_NoSources_NoText => k_is)
    (case q_NoSources_NoText => rfl)
    (case s_NoSources_NoValues => k_is)
    (case q_NoSources_NoValues => rfl)
    (case s_NoSources_Ringed => k_is)
    (case q_NoSources_Ringed => rfl)
    (case s_NoLine_SignalError => k_is)
    (case eg_NoLine => k_is)
    (case ek_NoLine => k_is)
    (case ed_NoLine => k_is)
    (case ea_NoLine => k_is)
    (case em_NoLine => k_is)
    (case w_NoLine => k_is)
    (case s_NoLine_NoDeed => k_is)
    (case q_NoLine_NoDeed => rfl)
    (case s_NoLine_NoDelay => k_is)
    (case q_NoLine_NoDelay => rfl)
    (case s_NoLine_NoKind => k_is)
    (case q_NoLine_NoKind => rfl)
    (case s_NoLine_NoLine => first | rfl | k_is)
    (case s_NoLine_NoSize => k_is)
    (case q_NoLine_NoSize => rfl)
    (case s_NoLine_NoSources => k_is)
    (case q_NoLine_NoSources => rfl)
    (case s_NoLine_NoText => k_is)
    (case q_NoLine_NoText => rfl)
    (case s_NoLine_NoValues => k_is)
    (case q_NoLine_NoValues => rfl)
    (case s_NoLine_Ringed => k_is)
    (case q_NoLine_Ringed => rfl)
    (case s_NoDelay_SignalError => k_is)
    (case eg_NoDelay => k_is)
    (case ek_NoDelay => k_is)
    (case ed_NoDelay => k_is)
    (case ea_NoDelay => k_is)
    (case em_NoDelay => k_is)
    (case w_NoDelay => k_is)
    (case s_NoDelay_NoDeed => k_is)
    (case q_NoDelay_NoDeed => rfl)
    (case s_NoDelay_NoDelay => first | rfl | k_is)
    (case s_NoDelay_NoKind => k_is)
    (case q_NoDelay_NoKind => rfl)
    (case s_NoDelay_NoLine => k_is)
    (case q_NoDelay_NoLine => rfl)
    (case s_NoDelay_NoSize => k_is)
    (case q_NoDelay_NoSize => rfl)
    (case s_NoDelay_NoSources => k_is)
    (case q_NoDelay_NoSources => rfl)
    (case s_NoDelay_NoText => k_is)
    (case q_NoDelay_NoText => rfl)
    (case s_NoDelay_NoValues => k_is)
    (case q_NoDelay_NoValues => rfl)
    (case s_NoDelay_Ringed => k_is)
    (case q_NoDelay_Ringed => rfl)
    (case s_NoValues_SignalError => k_is)
    (case eg_NoValues => k_is)
    (case ek_NoValues => k_is)
    (case ed_NoValues => k_is)
    (case ea_NoValues => k_is)
    (case em_NoValues => k_is)
    (case w_NoValues => k_is)
    (case s_NoValues_NoDeed => k_is)
    (case q_NoValues_NoDeed => rfl)
    (case s_NoValues_NoDelay => k_is)
    (case q_NoValues_NoDelay => rfl)
    (case s_NoValues_NoKind => k_is)
    (case q_NoValues_NoKind => rfl)
    (case s_NoValues_NoLine => k_is)
    (case q_NoValues_NoLine => rfl)
    (case s_NoValues_NoSize => k_is)
    (case q_NoValues_NoSize => rfl)
    (case s_NoValues_NoSources => k_is)
    (case q_NoValues_NoSources => rfl)
    (case s_NoValues_NoText => k_is)
    (case q_NoValues_NoText => rfl)
    (case s_NoValues_NoValues => first | rfl | k_is)
    (case s_NoValues_Ringed => k_is)
    (case q_NoValues_Ringed => rfl)
    (case s_Ringed_SignalError => k_is)
    (case eg_Ringed => k_is)
    (case ek_Ringed => k_is)
    (case ed_Ringed => k_is)
    (case ea_Ringed => k_is)
    (case em_Ringed => k_is)
    (case w_Ringed => k_is)
    (case s_Ringed_NoDeed => k_is)
    (case q_Ringed_NoDeed => rfl)
    (case s_Ringed_NoDelay => k_is)
    (case q_Ringed_NoDelay => rfl)
    (case s_Ringed_NoKind => k_is)
    (case q_Ringed_NoKind => rfl)
    (case s_Ringed_NoLine => k_is)
    (case q_Ringed_NoLine => rfl)
    (case s_Ringed_NoSize => k_is)
    (case q_Ringed_NoSize => rfl)
    (case s_Ringed_NoSources => k_is)
    (case q_Ringed_NoSources => rfl)
    (case s_Ringed_NoText => k_is)
    (case q_Ringed_NoText => rfl)
    (case s_Ringed_NoValues => k_is)
    (case q_Ringed_NoValues => rfl)
    (case s_Ringed_Ringed => first | rfl | k_is)
    (case s_NoDeed_SignalError => k_is)
    (case eg_NoDeed => k_is)
    (case ek_NoDeed => k_is)
    (case ed_NoDeed => k_is)
    (case ea_NoDeed => k_is)
    (case em_NoDeed => k_is)
    (case w_NoDeed => k_is)
    (case s_NoDeed_NoDeed => first | rfl | k_is)
    (case s_NoDeed_NoDelay => k_is)
    (case q_NoDeed_NoDelay => rfl)
    (case s_NoDeed_NoKind => k_is)
    (case q_NoDeed_NoKind => rfl)
    (case s_NoDeed_NoLine => k_is)
    (case q_NoDeed_NoLine => rfl)
    (case s_NoDeed_NoSize => k_is)
    (case q_NoDeed_NoSize => rfl)
    (case s_NoDeed_NoSources => k_is)
    (case q_NoDeed_NoSources => rfl)
    (case s_NoDeed_NoText => k_is)
    (case q_NoDeed_NoText => rfl)
    (case s_NoDeed_NoValues => k_is)
    (case q_NoDeed_NoValues => rfl)
    (case s_NoDeed_Ringed => k_is)
    (case q_NoDeed_Ringed => rfl)
    (case s_NoText_SignalError => k_is)
    (case eg_NoText => k_is)
    (case ek_NoText => k_is)
    (case ed_NoText => k_is)
    (case ea_NoText => k_is)
    (case em_NoText => k_is)
    (case w_NoText => k_is)
    (case s_NoText_NoDeed => k_is)
    (case q_NoText_NoDeed => rfl)
    (case s_NoText_NoDelay => k_is)
    (case q_NoText_NoDelay => rfl)
    (case s_NoText_NoKind => k_is)
    (case q_NoText_NoKind => rfl)
    (case s_NoText_NoLine => k_is)
    (case q_NoText_NoLine => rfl)
    (case s_NoText_NoSize => k_is)
    (case q_NoText_NoSize => rfl)
    (case s_NoText_NoSources => k_is)
    (case q_NoText_NoSources => rfl)
    (case s_NoText_NoText => first | rfl | k_is)
    (case s_NoText_NoValues => k_is)
    (case q_NoText_NoValues => rfl)
    (case s_NoText_Ringed => k_is)
    (case q_NoText_Ringed => rfl)
    (case a0 => k_is)
    (case l0 => k_is)
    (case c0 => k_is)
    (case k0 => k_is)
    (case a1 => k_is)
    (case l1 => k_is)
    (case c1 => k_is)
    (case k1 => k_is)
    (case a2 => k_is)
    (case l2 => k_is)
    (case c2 => k_is)
    (case k2 => k_is)
    (case a3 => k_is)
    (case l3 => k_is)
    (case c3 => k_is)
    (case k3 => k_is)
    (case a4 => k_is)
    (case l4 => k_is)
    (case c4 => k_is)
    (case k4 => k_is)
    (case a5 => k_is)
    (case l5 => k_is)
    (case c5 => k_is)
    (case k5 => k_is)
    (case a6 => k_is)
    (case l6 => k_is)
    (case c6 => k_is)
    (case k6 => k_is)
    (case a7 => k_is)
    (case l7 => k_is)
    (case c7 => k_is)
    (case k7 => k_is)
    (case a8 => k_is)
    (case l8 => k_is)
    (case c8 => k_is)
    (case k8 => k_is)
    (case a9 => k_is)
    (case l9 => k_is)
    (case c9 => k_is)
    (case k9 => k_is)
    (case a10 => k_is)
    (case l10 => k_is)
    (case c10 => k_is)
    (case k10 => k_is)
    (case a11 => k_is)
    (case l11 => k_is)
    (case c11 => k_is)
    (case k11 => k_is)
    (case a12 => k_is)
    (case l12 => k_is)
    (case c12 => k_is)
    (case k12 => k_is)
    (case a13 => k_is)
    (case l13 => k_is)
    (case c13 => k_is)
    (case k13 => k_is)
    (case a14 => k_is)
    (case l14 => k_is)
    (case c14 => k_is)
    (case k14 => k_is)
    (case a15 => k_is)
    (case l15 => k_is)
    (case c15 => k_is)
    (case k15 => k_is)
    (case a16 => k_is)
    (case l16 => k_is)
    (case c16 => k_is)
    (case k16 => k_is)
    (case a17 => k_is)
    (case l17 => k_is)
    (case c17 => k_is)
    (case k17 => k_is)
    (case a18 => k_is)
    (case l18 => k_is)
    (case c18 => k_is)
    (case k18 => k_is)
    (case a19 => k_is)
    (case l19 => k_is)
    (case c19 => k_is)
    (case k19 => k_is)
    (case a20 => k_is)
    (case l20 => k_is)
    (case c20 => k_is)
    (case k20 => k_is)
    (case a21 => k_is)
    (case l21 => k_is)
    (case c21 => k_is)
    (case k21 => k_is)
    (case a22 => k_is)
    (case l22 => k_is)
    (case c22 => k_is)
    (case k22 => k_is)
    (case a23 => k_is)
    (case l23 => k_is)
    (case c23 => k_is)
    (case k23 => k_is)
    (case a24 => k_is)
    (case l24 => k_is)
    (case c24 => k_is)
    (case k24 => k_is)
    (case a25 => k_is)
    (case l25 => k_is)
    (case c25 => k_is)
    (case k25 => k_is)
    (case a26 => k_is)
    (case l26 => k_is)
    (case c26 => k_is)
    (case k26 => k_is)
    (case a27 => k_is)
    (case l27 => k_is)
    (case c27 => k_is)
    (case k27 => k_is)
    (case a28 => k_is)
    (case l28 => k_is)
    (case c28 => k_is)
    (case k28 => k_is)
    (case a29 => k_is)
    (case l29 => k_is)
    (case c29 => k_is)
    (case k29 => k_is)
    (case a30 => k_is)
    (case l30 => k_is)
    (case c30 => k_is)
    (case k30 => k_is)
    (case a31 => k_is)
    (case l31 => k_is)
    (case c31 => k_is)
    (case k31 => k_is)
