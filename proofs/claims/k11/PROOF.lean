import PyProof.Rows.All
import Wide.All
import OpenK.AllK
import Wide.FinOn
import HandS.ForExc
import HandS.ForMost
import HandS.Evl
import HandS.IsInst
import HandS.TryOnly
import HandS.ExcIs
import HandS.TupAny
import HandS.TupMul
import HandS.SortInts
import HandS.Codes
import HandS.More
import HandS.Steps
import HandS.SortKw
import HandS.TryMany
import HandS.HotCalls
import HandS.Rev
import HandS.Zip
import KE.DataMinMax
import PySem.Challenge.RW_signalgraph_k11_whole_trimmed
set_option Elab.async false
set_option linter.all false
set_option maxRecDepth 100000
set_option maxHeartbeats 300000
/-! The base of all laws: calls of a def by its promise, steps over a known heap (Go). -/
namespace Sg
open PySem L2 Evl

/-! ### a def that may be called by its name -/
structure CalX (P : Program) (w : World) (K : PySem.W.Frag) (mg : Str → Option Value) (base : Heap) (k : Nat) (x : Str) (sp : Sp) : Prop where
  ex : ∃ (f : Addr) (fd : FuncData) (ps : List Str), FnOk P w K mg base (L2.CX P w) k f fd ps sp ∧ mg x = some (.ref f) ∧ PySem.W.keepIn K (.ref f) = true ∧ Binds K fd ps []
theorem pe_cx {X : Cx} {W : WX} {k j : Nat} {x : Str} {sp : Sp} {p pos : Pos} {e : Expr} {es : List Expr} {t : TA} (c : CalX X.prog X.w X.K X.mg X.base k x sp) (hr : Room j X.A) (hk : k ≤ j) (hg : Gl X x) (tk : Takes X W) (ht : PA X (e :: es) t)
    (hdb : (x == ("__debug__" : Str)) = false := by decide) (he : starEach (e :: es) X.env = (false, eval e X.env) :: starEach es X.env := by rfl) (hpl : (backTo pos (starEach es X.env)).any (·.1) = false := by rfl) :
    PE X (.Call (.Name x p) (e :: es) [] pos) (tCallS sp (WE W) t) := by
  obtain ⟨f, fd, ps, F, hm, hkp, hb⟩ := c.ex
  exact pe_callS F (hr.mono hk) hg hm hkp hb (fun σ => passAt tk σ) ht hdb he hpl

/-! ### the heap: more of extension -/
theorem upd_get {H : Hp} {a b : Addr} {o : HO} : upd H a o b = if b = a then some o else H b := rfl
theorem none_upd {H : Hp} {p q : Addr} {o : HO} : upd H p o q = none ↔ q ≠ p ∧ H q = none := by
  rw [upd_get]
  by_cases h : q = p
  · rw [if_pos h]; exact ⟨fun z => (by cases z), fun z => absurd h z.1⟩
  · rw [if_neg h]; exact ⟨fun z => ⟨h, z⟩, fun z => z.2⟩
theorem _root_.Evl.Ex.put {G H : Hp} {p : Addr} {o : HO} (e : Ex G H) : Ex (upd G p o) (upd H p o) := fun a u h => by
  rw [upd_get] at h ⊢
  by_cases q : a = p
  · rw [if_pos q] at h ⊢; exact h
  · rw [if_neg q] at h ⊢; exact e a u h
theorem _root_.Evl.Ex.know {G H : Hp} {p : Addr} {o : HO} (e : Ex G H) (h : H p = some o) (hp : G p = none) : Ex (upd G p o) H := fun a u q => by
  rw [upd_get] at q
  by_cases z : a = p
  · rw [if_pos z] at q; rw [z, h]; exact q
  · rw [if_neg z] at q; exact e a u q
theorem _root_.Evl.Ex.none {G H : Hp} {p : Addr} (e : Ex G H) (h : H p = none) : G p = none := fresh_back e h
theorem ex_of_eq {G H : Hp} (h : G = H) : Ex G H := h ▸ Ex.refl _

/-! ### from a known heap -/
/-- whatever else stands, from what is known (G) the statement brings about what is wanted -/
def Go (t : TS) (D : Ends) (σ : L2.St) (G : Hp) : Prop := ∀ H, Ex G H → t D σ H
/-- an end said of what is known -/
def Kn (P : L2.St → Hp → Prop) : L2.St → Hp → Prop := fun σ H => ∃ G, Ex G H ∧ P σ G
section
variable {K : PySem.W.Frag} {σ : L2.St} {G G' H : Hp} {ta tb te tx : TE} {t u : TT} {x y z v : V} {D : Ends} {tu tw tz ts : TS} {g : TG}
theorem Go.start (h : Go ts D σ G) : ts D σ G := h G (Ex.refl G)
theorem Go.weak (e : Ex G G') (h : Go ts D σ G) : Go ts D σ G' := fun H e2 => h H (e.trans e2)
theorem go_next (h : ∀ H, Ex G H → D.nx σ H) : Go tNext D σ G := h
theorem go_kn {P : L2.St → Hp → Prop} {rt : VK} {bk ct : L2.St → Hp → Prop} (h : P σ G) : Go tNext ⟨Kn P, rt, bk, ct⟩ σ G := fun _ e => ⟨G, e, h⟩
theorem go_up {rt : VK} {bk ct : L2.St → Hp → Prop} {D' : Ends} (h : Go tz D' σ G) : Go tNext ⟨tz D', rt, bk, ct⟩ σ G := h
theorem go_seq (h : Go ts { D with nx := tz D } σ G) : Go (tSeq ts tz) D σ G := h
/-- where a statement's own end is Kn P, what follows goes on from P -/
theorem go_asg {i : Nat} (h : Ev te σ G v) (k : Go tz D (σ.set i (some v)) G) : Go (tSeq (tAsg te (gName i)) tz) D σ G := fun H e =>
  h H e _ fun H1 e1 => k H1 (e.trans e1)
theorem go_asgL {i : Nat} {xs : List V} (h : EvL te σ G xs) (k : ∀ p, G p = none → Go tz D (σ.set i (some (.ref p))) (upd G p (.lst xs))) : Go (tSeq (tAsg te (gName i)) tz) D σ G := fun H e =>
  h H e _ fun p H1 hp e1 h1 => k p (e.none hp) H1 ((e.trans e1).know h1 (e.none hp))
theorem go_asgU {i : Nat} {xs : List V} (h : EvU te σ G xs) (k : ∀ p, G p = none → Go tz D (σ.set i (some (.ref p))) (upd G p (.tup xs))) : Go (tSeq (tAsg te (gName i)) tz) D σ G := fun H e =>
  h H e _ fun p H1 hp e1 h1 => k p (e.none hp) H1 ((e.trans e1).know h1 (e.none hp))
theorem go_drop (h : Ev te σ G v) (k : Go tz D σ G) : Go (tSeq (tDrop te) tz) D σ G := fun H e => h H e _ fun H1 e1 => k H1 (e.trans e1)
theorem go_ret (h : Ev te σ G v) (k : ∀ H, Ex G H → D.rt v H) : Go (tSeq (tRet te) tz) D σ G := fun H e => h H e _ fun H1 e1 => k H1 (e.trans e1)
theorem go_retL {xs : List V} (h : EvL te σ G xs) (k : ∀ p H, G p = none → Ex G H → H p = some (.lst xs) → D.rt (.ref p) H) : Go (tSeq (tRet te) tz) D σ G := fun H e =>
  h H e _ fun p H1 hp e1 h1 => k p H1 (e.none hp) (e.trans e1) h1
theorem go_retU {xs : List V} (h : EvU te σ G xs) (k : ∀ p H, G p = none → Ex G H → H p = some (.tup xs) → D.rt (.ref p) H) : Go (tSeq (tRet te) tz) D σ G := fun H e =>
  h H e _ fun p H1 hp e1 h1 => k p H1 (e.none hp) (e.trans e1) h1
theorem go_if {b : Bool} (h : EvT t σ G b) (h1 : b = true → Go tu { D with nx := tz D } σ G) (h2 : b = false → Go tw { D with nx := tz D } σ G) : Go (tSeq (tIfS t tu tw) tz) D σ G := fun H e =>
  h H e _ fun H1 e1 => by
    cases b with
    | true =>
      show tu { D with nx := tz D } σ H1
      exact h1 rfl H1 (e.trans e1)
    | false =>
      show tw { D with nx := tz D } σ H1
      exact h2 rfl H1 (e.trans e1)
/-- an if without else -/
theorem go_when {b : Bool} (h : EvT t σ G b) (h1 : b = true → Go tu { D with nx := tz D } σ G) (h2 : b = false → Go tz D σ G) : Go (tSeq (tIfS t tu tNext) tz) D σ G := go_if h h1 fun hb => go_up (h2 hb)
theorem go_app {l : Addr} {xs : List V} (ha : Ev ta σ G (.ref l)) (hl : G l = some (.lst xs)) (h : Ev te σ G v) (hz : xs.length < 100000) (k : Go tz D σ (upd G l (.lst (xs ++ [v])))) :
    Go (tSeq (tDrop (tBM K "list" rAppend ta (tCons te tNil))) tz) D σ G := fun H e => ha H e _ fun H1 e1 =>
  ⟨Or.inl ⟨rfl, xs, sq_of (e1 l _ (e l _ hl))⟩, h H1 (e.trans e1) _ fun H2 e2 => ⟨l, xs, v, rfl, rfl, e2 l _ (e1 l _ (e l _ hl)), sz_lt hz, k _ (Ex.put ((e.trans e1).trans e2))⟩⟩
/-- append of an object that is made on the way (or handed back by a call): P says what is known of it -/
theorem go_setL {l : Addr} {xs : List V} {j : Nat} (h : Ev te σ G v) (ho : Ev ta σ G (.ref l)) (hl : G l = some (.lst xs)) (hi : Ev tb σ G (.int (j : Int))) (hj : j < xs.length) (k : Go tz D σ (upd G l (.lst (xs.set j v)))) :
    Go (tSeq (tAsg te (gSub ta tb rSetL)) tz) D σ G := fun H e => h H e _ fun H1 e1 => ho H1 (e.trans e1) _ fun H2 e2 => hi H2 ((e.trans e1).trans e2) _ fun H3 e3 =>
  ⟨l, xs, (j : Int), j, rfl, rfl, (((e.trans e1).trans e2).trans e3) l _ hl, ixN_nat hj, k _ (Ex.put (((e.trans e1).trans e2).trans e3))⟩

/-! ### what evaluates to something of which P holds -/
def EvP (te : TE) (σ : L2.St) (G : Hp) (P : V → Hp → Prop) : Prop := ∀ H, Ex G H → ∀ Q : VK, (∀ v G' H', Ex G G' → Ex G' H' → Ex H H' → P v G' → Q v H') → te σ H Q
theorem EvP.of (h : Ev te σ G v) : EvP te σ G fun x G' => x = v ∧ G' = G := fun H e Q q => h H e Q fun H1 e1 => q v G H1 (Ex.refl G) (e.trans e1) e1 ⟨rfl, rfl⟩
theorem go_asgP {i : Nat} {P : V → Hp → Prop} (h : EvP te σ G P) (k : ∀ v G', Ex G G' → P v G' → Go tz D (σ.set i (some v)) G') : Go (tSeq (tAsg te (gName i)) tz) D σ G := fun H e =>
  h H e _ fun v G' H1 e1 e2 _ p => k v G' e1 p H1 e2
theorem go_retP {P : V → Hp → Prop} (h : EvP te σ G P) (k : ∀ v G' H, Ex G G' → Ex G' H → P v G' → D.rt v H) : Go (tSeq (tRet te) tz) D σ G := fun H e =>
  h H e _ fun v G' H1 e1 e2 _ p => k v G' H1 e1 e2 p
theorem go_dropP {P : V → Hp → Prop} (h : EvP te σ G P) (k : ∀ v G', Ex G G' → P v G' → Go tz D σ G') : Go (tSeq (tDrop te) tz) D σ G := fun H e =>
  h H e _ fun v G' H1 e1 e2 _ p => k v G' e1 p H1 e2
theorem go_appP {P : V → Hp → Prop} {l : Addr} {xs : List V} (ha : Ev ta σ G (.ref l)) (hl : G l = some (.lst xs)) (h : EvP te σ G P) (hz : xs.length < 100000)
    (k : ∀ v G', Ex G G' → P v G' → Go tz D σ (upd G' l (.lst (xs ++ [v])))) :
    Go (tSeq (tDrop (tBM K "list" rAppend ta (tCons te tNil))) tz) D σ G := fun H e => ha H e _ fun H1 e1 =>
  ⟨Or.inl ⟨rfl, xs, sq_of (e1 l _ (e l _ hl))⟩, h H1 (e.trans e1) _ fun v G' H2 g1 g2 e2 p => ⟨l, xs, v, rfl, rfl, e2 l _ (e1 l _ (e l _ hl)), sz_lt hz, k v G' g1 p _ (Ex.put g2)⟩⟩
theorem go_setLP {P : V → Hp → Prop} {l : Addr} {xs : List V} {j : Nat} (h : EvP te σ G P) (ho : ∀ G', Ex G G' → Ev ta σ G' (.ref l)) (hl : G l = some (.lst xs)) (hi : ∀ G', Ex G G' → Ev tb σ G' (.int (j : Int))) (hj : j < xs.length)
    (k : ∀ v G', Ex G G' → P v G' → Go tz D σ (upd G' l (.lst (xs.set j v)))) :
    Go (tSeq (tAsg te (gSub ta tb rSetL)) tz) D σ G := fun H e => h H e _ fun v G' H1 g1 g2 e1 p => ho G' g1 H1 g2 _ fun H2 e2 => hi G' g1 H2 (g2.trans e2) _ fun H3 e3 =>
  ⟨l, xs, (j : Int), j, rfl, rfl, e3 l _ (e2 l _ (g2 l _ (g1 l _ hl))), ixN_nat hj, k v G' g1 p _ (Ex.put ((g2.trans e2).trans e3))⟩
/-- arguments of which P holds -/
def EvAP (ta : TA) (σ : L2.St) (G : Hp) (P : List V → Hp → Prop) : Prop := ∀ H, Ex G H → ∀ Q : List V → Hp → Prop, (∀ vs G' H', Ex G G' → Ex G' H' → Ex H H' → P vs G' → Q vs H') → ta σ H Q
theorem EvAP.of {ta : TA} {vs : List V} (h : EvA ta σ G vs) : EvAP ta σ G fun xs G' => xs = vs ∧ G' = G := fun H e Q q => h H e Q fun H1 e1 => q vs G H1 (Ex.refl G) (e.trans e1) e1 ⟨rfl, rfl⟩
theorem eap_nil : EvAP tNil σ G fun xs G' => xs = [] ∧ G' = G := EvAP.of ea_nil
theorem eap_cons {tr : TA} {P : V → Hp → Prop} {R : V → List V → Hp → Prop} (h : EvP te σ G P) (hr : ∀ v G', Ex G G' → P v G' → EvAP tr σ G' (R v)) :
    EvAP (tCons te tr) σ G fun xs G' => ∃ v vs G1, xs = v :: vs ∧ Ex G G1 ∧ Ex G1 G' ∧ P v G1 ∧ R v vs G' := fun H e Q q =>
  h H e _ fun v G1 H1 g1 g2 e1 p => hr v G1 g1 p H1 g2 _ fun vs G2 H2 k1 k2 e2 r => q (v :: vs) G2 H2 (g1.trans k1) k2 (e1.trans e2) ⟨v, vs, G1, rfl, g1, k1, p, r⟩
theorem eap_ev {tr : TA} {R : List V → Hp → Prop} (h : Ev te σ G v) (hr : EvAP tr σ G R) : EvAP (tCons te tr) σ G fun xs G' => ∃ vs, xs = v :: vs ∧ R vs G' := fun H e Q q =>
  h H e _ fun H1 e1 => hr H1 (e.trans e1) _ fun vs G2 H2 k1 k2 e2 r => q (v :: vs) G2 H2 k1 k2 (e1.trans e2) ⟨vs, rfl, r⟩
/-- the last argument of which something is said; those behind it evaluate -/
theorem eap_p {tr : TA} {P : V → Hp → Prop} {ws : List V} (h : EvP te σ G P) (hr : ∀ v G', Ex G G' → P v G' → EvA tr σ G' ws) : EvAP (tCons te tr) σ G fun xs G' => ∃ v, xs = v :: ws ∧ P v G' := fun H e Q q =>
  h H e _ fun v G1 H1 g1 g2 e1 p => hr v G1 g1 p H1 g2 _ fun H2 e2 => q (v :: ws) G1 H2 g1 (g2.trans e2) (e1.trans e2) ⟨v, rfl, p⟩
theorem ep_L {xs : List V} (h : EvL te σ G xs) : EvP te σ G fun v G' => ∃ p, v = .ref p ∧ G p = none ∧ G' = upd G p (.lst xs) := fun H e Q q =>
  h H e Q fun p H1 hp e1 h1 => q _ (upd G p (.lst xs)) H1 (Ex.new (e.none hp)) ((e.trans e1).know h1 (e.none hp)) e1 ⟨p, rfl, e.none hp, rfl⟩
theorem ep_U {xs : List V} (h : EvU te σ G xs) : EvP te σ G fun v G' => ∃ p, v = .ref p ∧ G p = none ∧ G' = upd G p (.tup xs) := fun H e Q q =>
  h H e Q fun p H1 hp e1 h1 => q _ (upd G p (.tup xs)) H1 (Ex.new (e.none hp)) ((e.trans e1).know h1 (e.none hp)) e1 ⟨p, rfl, e.none hp, rfl⟩
/-- a tuple of what is made on the way -/
theorem ep_tup {ta : TA} {P : List V → Hp → Prop} {R : V → Hp → Prop} (h : EvAP ta σ G P) (hl : ∀ vs G', P vs G' → vs.length ≤ 100000) (hR : ∀ vs G' p, Ex G G' → P vs G' → G' p = none → R (.ref p) (upd G' p (.tup vs))) : EvP (tTup ta) σ G R := fun H e Q q =>
  h H e _ fun vs G' H1 g1 g2 e1 p => ⟨sz_of (hl vs G' p), fun a ha => q _ (upd G' a (.tup vs)) _ (g1.trans (Ex.new (g2.none ha))) (Ex.put g2) (e1.trans (Ex.new ha)) (hR vs G' a g1 p (g2.none ha))⟩
theorem ep_lst {ta : TA} {P : List V → Hp → Prop} {R : V → Hp → Prop} (h : EvAP ta σ G P) (hl : ∀ vs G', P vs G' → vs.length ≤ 100000) (hR : ∀ vs G' p, Ex G G' → P vs G' → G' p = none → R (.ref p) (upd G' p (.lst vs))) : EvP (tLst ta) σ G R := fun H e Q q =>
  h H e _ fun vs G' H1 g1 g2 e1 p => ⟨sz_of (hl vs G' p), fun a ha => q _ (upd G' a (.lst vs)) _ (g1.trans (Ex.new (g2.none ha))) (Ex.put g2) (e1.trans (Ex.new ha)) (hR vs G' a g1 p (g2.none ha))⟩

/-! ### calls of defs: what a promise gives -/
/-- the def hands back v -/
def SpG (sp : Sp) (vs : List V) (G : Hp) (P : V → Hp → Prop) : Prop := ∀ H, Ex G H → ∀ Q : VK, ∀ E : XK, (∀ v G' H', Ex G G' → Ex G' H' → Ex H H' → P v G' → Q v H') → sp vs H Q E
theorem ep_call {sp : Sp} {E : L2.St → XK} {ta : TA} {vs : List V} {P : V → Hp → Prop} (h : EvA ta σ G vs) (hs : SpG sp vs G P) : EvP (tCallS sp E ta) σ G P := fun H e Q q =>
  h H e _ fun H1 e1 => hs H1 (e.trans e1) Q (E σ) fun v G' H' g1 g2 e2 p => q v G' H' g1 g2 (e1.trans e2) p
theorem ep_callP {sp : Sp} {E : L2.St → XK} {ta : TA} {A : List V → Hp → Prop} {P : V → Hp → Prop} (h : EvAP ta σ G A) (hs : ∀ vs G', Ex G G' → A vs G' → SpG sp vs G' P) : EvP (tCallS sp E ta) σ G P := fun H e Q q =>
  h H e _ fun vs G1 H1 g1 g2 e1 p => hs vs G1 g1 p H1 g2 Q (E σ) fun v G' H' k1 k2 e2 p2 => q v G' H' (g1.trans k1) k2 (e1.trans e2) p2
theorem ev_callS {sp : Sp} {E : L2.St → XK} {ta : TA} {vs : List V} (h : EvA ta σ G vs) (hs : SpV sp vs G z) : Ev (tCallS sp E ta) σ G z := fun H e Q q =>
  h H e _ fun H1 e1 => hs H1 (e.trans e1) Q (fun H2 e2 => q H2 (e1.trans e2)) (E σ)
theorem el_callS {sp : Sp} {E : L2.St → XK} {ta : TA} {vs xs : List V} (h : EvA ta σ G vs) (hs : SpL sp vs G xs) : EvL (tCallS sp E ta) σ G xs := fun H e Q q =>
  h H e _ fun H1 e1 => hs H1 (e.trans e1) Q (fun p H2 hp e2 h2 => q p H2 (fresh_back e1 hp) (e1.trans e2) h2) (E σ)
theorem EvP.imp {P R : V → Hp → Prop} (h : EvP te σ G P) (i : ∀ v G', Ex G G' → P v G' → R v G') : EvP te σ G R := fun H e Q q => h H e Q fun v G' H' g1 g2 e1 p => q v G' H' g1 g2 e1 (i v G' g1 p)
theorem SpG.imp {sp : Sp} {vs : List V} {P R : V → Hp → Prop} (h : SpG sp vs G P) (i : ∀ v G', Ex G G' → P v G' → R v G') : SpG sp vs G R := fun H e Q E q => h H e Q E fun v G' H' g1 g2 e1 p => q v G' H' g1 g2 e1 (i v G' g1 p)

/-! ### more that evaluates -/
theorem ev_chain {r r' : R2} {a b : Bool} (ha : Ev ta σ G x) (hb : Ev tb σ G y) (hr : RV r x y G (.bl a)) (hc : a = true → Ev te σ G z) (hr' : a = true → RV r' y z G (.bl b)) (hb0 : a = false → b = false) :
    Ev (tChain r r' ta tb te) σ G (.bl b) := fun H e Q q => ha H e _ fun H1 e1 => hb H1 (e.trans e1) _ fun H2 e2 => hr H2 ((e.trans e1).trans e2) _ fun H3 e3 => ⟨a, rfl, by
  cases a with
  | true =>
    show te σ H3 _
    exact hc rfl H3 (((e.trans e1).trans e2).trans e3) _ fun H4 e4 => hr' rfl H4 ((((e.trans e1).trans e2).trans e3).trans e4) Q fun H5 e5 => q H5 ((((e1.trans e2).trans e3).trans e4).trans e5)
  | false =>
    show Q (.bl false) H3
    rw [← hb0 rfl]
    exact q H3 ((e1.trans e2).trans e3)⟩
theorem rv_eqI {i j : Int} : RV rEq (.int i) (.int j) G (.bl (decide (i = j))) := fun H1 _ _ q => ⟨rfl, by
  have e : decide (V.int i = V.int j) = decide (i = j) := by simp
  rw [e]; exact q H1 (Ex.refl H1)⟩
theorem rv_eqS {i j : Str} : RV rEq (.str i) (.str j) G (.bl (decide (i = j))) := fun H1 _ _ q => ⟨rfl, by
  have e : decide (V.str i = V.str j) = decide (i = j) := by simp
  rw [e]; exact q H1 (Ex.refl H1)⟩
theorem rv_eqB {i j : Bool} : RV rEq (.bl i) (.bl j) G (.bl (decide (i = j))) := fun H1 _ _ q => ⟨rfl, by
  have e : decide (V.bl i = V.bl j) = decide (i = j) := by simp
  rw [e]; exact q H1 (Ex.refl H1)⟩
theorem rv_neI {i j : Int} : RV rNe (.int i) (.int j) G (.bl (!decide (i = j))) := fun H1 _ _ q => ⟨rfl, by
  have e : decide (V.int i = V.int j) = decide (i = j) := by simp
  rw [e]; exact q H1 (Ex.refl H1)⟩
theorem rv_neS {i j : Str} : RV rNe (.str i) (.str j) G (.bl (!decide (i = j))) := fun H1 _ _ q => ⟨rfl, by
  have e : decide (V.str i = V.str j) = decide (i = j) := by simp
  rw [e]; exact q H1 (Ex.refl H1)⟩
theorem rv_neB {i j : Bool} : RV rNe (.bl i) (.bl j) G (.bl (!decide (i = j))) := fun H1 _ _ q => ⟨rfl, by
  have e : decide (V.bl i = V.bl j) = decide (i = j) := by simp
  rw [e]; exact q H1 (Ex.refl H1)⟩
theorem ev_lenT {p : Addr} {xs : List V} (ha : Ev ta σ G (.ref p)) (h : SqT K G p xs) : Ev (tCB (rLenS K) (tCons ta tNil)) σ G (.int (xs.length : Int)) := fun H1 e Q q =>
  ha H1 e _ fun H2 e2 => ⟨p, xs, rfl, Or.inr (ex_t (e.trans e2) h), q H2 e2⟩
end
/-! ### where the top's things stand -/
structure Ads where
  LEAST : Addr
  SignalError : Addr
  NoSize : Addr
  NoKind : Addr
  NoSources : Addr
  NoLine : Addr
  NoDelay : Addr
  NoValues : Addr
  Ringed : Addr
  NoDeed : Addr
  NoText : Addr
  Board : Addr
/-- what the text's table LEAST says -/
def least (z : Str) : Option Int :=
  if z = "yes" then some 0 else if z = "no" then some 0 else if z = "keep" then some 1 else if z = "not" then some 1 else if z = "both" then some 2 else if z = "either" then some 2 else if z = "unlike" then some 2
  else if z = "pick" then some 3 else if z = "most" then some 3 else none
structure LeastAt (K : PySem.W.Frag) (w : World) (d : Addr) : Prop where
  at_ : ∃ es n, L2.KDict K w d es n
  no : ∀ z, least z = none → PySem.W.nsIn K d z = some none
  yes : ∀ z i, least z = some i → ∃ t, PySem.W.nsIn K d z = some (some (.int i t))
section
variable {X : Cx} {d : Addr}
def rNotLeast (d : Addr) : R2 := fun x y H Q => ∃ z, x = .str z ∧ y = .ref d ∧ Q (.bl (!(least z).isSome)) H
def rItLeast (d : Addr) : R2 := fun x y H Q => ∃ z i, x = .ref d ∧ y = .str z ∧ least z = some i ∧ Q (.int i) H
theorem op_notIn_least (D : LeastAt X.K X.w d) : OpR X (compareOp .NotIn) (rNotLeast d) := by
  obtain ⟨es, n, k⟩ := D.at_
  intro pins s σ H x y v u Q I rx ry h
  obtain ⟨z, rfl, rfl, q⟩ := h
  cases e : least z with
  | none =>
    refine op_notIn_kd k pins s σ H _ _ v u Q I rx ry ⟨z, none, rfl, rfl, D.no z e, ?_⟩
    rw [e] at q; exact q
  | some i =>
    obtain ⟨t, ht⟩ := D.yes z i e
    refine op_notIn_kd k pins s σ H _ _ v u Q I rx ry ⟨z, _, rfl, rfl, ht, ?_⟩
    rw [e] at q; exact q
theorem ix_least (D : LeastAt X.K X.w d) : IxR X (rItLeast d) := by
  obtain ⟨es, n, k⟩ := D.at_
  intro value slice pins s σ H x y v u Q I rx ry h hs
  obtain ⟨z, i, rfl, rfl, e, q⟩ := h
  obtain ⟨t, ht⟩ := D.yes z i e
  refine ix_kdict value slice pins s σ H _ _ v u Q I rx ry ⟨d, z, .int i, rfl, rfl, ?_, q⟩ hs
  exact ⟨es, n, _, k.at_, k.lit, ht, ⟨t, rfl⟩⟩
theorem pe_gv {x : Str} {v : V} {pos : Pos} (hg : Gl X x) (h : ∃ u, X.mg x = some u ∧ RelV v u) (hd : (x == ("__debug__" : Str)) = false := by decide) : PE X (.Name x pos) (tC v) := by
  obtain ⟨u, hm, r⟩ := h
  exact pe_glob hg hm r hd
end

/-! ### what a def's promise says: it hands back what a plain function tells, or refuses as that tells -/
inductive Err | size | kind | sources | line | delay | values | ringed | deed | text
  deriving DecidableEq
def Ads.of (A : Ads) : Err → Addr
  | .size => A.NoSize | .kind => A.NoKind | .sources => A.NoSources | .line => A.NoLine | .delay => A.NoDelay | .values => A.NoValues | .ringed => A.Ringed | .deed => A.NoDeed | .text => A.NoText
def Out {α : Type} (A : Ads) (H : Hp) (Q : VK) (E : XK) (R : Hp → V → Hp → α → Prop) : Except Err α → Prop
  | .ok a => ∀ v H', Ex H H' → R H v H' a → Q v H'
  | .error e => ∀ H', Ex H H' → E (.ref (A.of e)) none H'
/-- a value of its own | a new list -/
def RV1 {α : Type} (f : α → V) : Hp → V → Hp → α → Prop := fun _ v _ a => v = f a
def RL1 {α : Type} (f : α → List V) : Hp → V → Hp → α → Prop := fun H v H' a => ∃ p, v = .ref p ∧ H p = none ∧ H' p = some (.lst (f a))
def RT1 {α : Type} (K : PySem.W.Frag) (f : α → List V) : Hp → V → Hp → α → Prop := fun _ v H' a => ∃ p, v = .ref p ∧ SqT K H' p (f a)
section
variable {α : Type} {A : Ads} {K : PySem.W.Frag} {σ : L2.St} {G H : Hp} {Q : VK} {E : XK} {R : Hp → V → Hp → α → Prop} {tr tz : TS} {D : Ends} {r : Except Err α} {sp : Sp} {vs : List V}
theorem go_raise (h : ∀ D σ H, Ex G H → tr D σ H) : Go (tSeq tr tz) D σ G := fun H e => h _ _ H e
theorem Out.ok {v : V} {H' : Hp} (o : Out A H Q E R r) (a : α) (h : r = .ok a) (e : Ex H H') (q : R H v H' a) : Q v H' := by
  subst h; exact o v H' e q
theorem Out.err {H' : Hp} (o : Out A H Q E R r) (x : Err) (h : r = .error x) (e : Ex H H') : E (.ref (A.of x)) none H' := by
  subst h; exact o H' e
/-- the promise used where it hands back -/
theorem spg_out {a : α} (hsp : ∀ H, Ex G H → ∀ Q E, Out A H Q E R r → sp vs H Q E) (h : r = .ok a) : SpG sp vs G fun v G' => ∃ H0, Ex G H0 ∧ Ex H0 G' ∧ R H0 v G' a := fun H e Q E q =>
  hsp H e Q E (by subst h; exact fun v H' e' p => q v H' H' (e.trans e') (Ex.refl _) e' ⟨H, e, e', p⟩)
theorem spv_out {f : α → V} {a : α} (hsp : ∀ H, Ex G H → ∀ Q E, Out A H Q E (RV1 f) r → sp vs H Q E) (h : r = .ok a) : SpV sp vs G (f a) := fun H e Q q E =>
  hsp H e Q E (by subst h; exact fun v H' e' p => by rw [show v = f a from p]; exact q H' e')
theorem spl_out {f : α → List V} {a : α} (hsp : ∀ H, Ex G H → ∀ Q E, Out A H Q E (RL1 f) r → sp vs H Q E) (h : r = .ok a) : SpL sp vs G (f a) := fun H e Q q E =>
  hsp H e Q E (by subst h; exact fun v H' e' p => by obtain ⟨p, rfl, hp, hl⟩ := p; exact q p H' hp e' hl)
theorem rv_notLeast {z : Str} {d : Addr} : RV (rNotLeast d) (.str z) (.ref d) G (.bl (!(least z).isSome)) := fun H1 _ _ q => ⟨z, rfl, rfl, q H1 (Ex.refl H1)⟩
theorem rv_itLeast {z : Str} {d : Addr} {i : Int} (h : least z = some i) : RV (rItLeast d) (.ref d) (.str z) G (.int i) := fun H1 _ _ q => ⟨z, i, rfl, rfl, h, q H1 (Ex.refl H1)⟩
end

/-! ### items, comprehensions, by lists of data -/
theorem at_map {α : Type} (f : α → V) (xs : List α) (d : α) {k : Int} (h0 : 0 ≤ k) (h1 : k < xs.length) : atI (xs.map f) k = some (f (xs.getD k.toNat d)) := by
  obtain ⟨j, rfl⟩ : ∃ j : Nat, k = (j : Int) := ⟨k.toNat, by omega⟩
  have hj : j < xs.length := by omega
  refine atI_nat ?_
  rw [List.getElem?_map, List.getElem?_eq_getElem hj, Int.toNat_natCast]
  simp [List.getD_eq_getElem?_getD, List.getElem?_eq_getElem hj]
theorem at_list {xs : List V} {j : Nat} {v : V} (h : xs[j]? = some v) : atI xs (j : Int) = some v := atI_nat h
theorem given_all {α : Type} (as : List α) (d : α) (p : α → Bool) (g : α → V) : ∀ n, n ≤ as.length → given n (fun i => p (as.getD i d)) (fun i => g (as.getD i d)) = ((as.take n).filter p).map g
  | 0, _ => rfl
  | n + 1, h => by
    have ih := given_all as d p g n (by omega)
    have hn : n < as.length := by omega
    have e1 : as.getD n d = as[n] := by simp [List.getD_eq_getElem?_getD, List.getElem?_eq_getElem hn]
    have e2 : as.take (n + 1) = as.take n ++ [as[n]] := by rw [List.take_add_one, List.getElem?_eq_getElem hn]; rfl
    rw [e2, List.filter_append, List.map_append]
    by_cases hp : p as[n] = true
    · rw [given_yes (by show p (as.getD n d) = true; rw [e1]; exact hp), ih]
      rw [List.filter_cons, if_pos hp, List.filter_nil, List.map_cons, List.map_nil]
      show _ ++ [g (as.getD n d)] = _
      rw [e1]
    · have hp' : p as[n] = false := by cases h : p as[n] <;> simp_all
      rw [given_no (by show p (as.getD n d) = false; rw [e1]; exact hp'), ih]
      simp [hp']
section
variable {K : PySem.W.Frag} {σ : L2.St} {G G' H : Hp} {ta tb te tx tl : TE} {t u : TT} {x y z v : V} {D : Ends} {tu tw tz ts : TS} {g : TG} {j : Nat} {vs : List Nat}
theorem ev_all {p : Addr} {bs : List Bool} (ha : Ev ta σ G (.ref p)) (h : SqL K G p (bs.map V.bl)) : Ev (tCB (rAll K) (tCons ta tNil)) σ G (.bl (bs.all id)) := fun H1 e Q q =>
  ha H1 e _ fun H2 e2 => ⟨p, bs, rfl, ex_l (e.trans e2) h, q H2 e2⟩
theorem ev_any {p : Addr} {bs : List Bool} (ha : Ev ta σ G (.ref p)) (h : SqL K G p (bs.map V.bl)) : Ev (tCB (rAny K) (tCons ta tNil)) σ G (.bl (bs.any id)) := fun H1 e Q q =>
  ha H1 e _ fun H2 e2 => ⟨p, bs, rfl, ex_l (e.trans e2) h, q H2 e2⟩
theorem ev_allN {bs : List Bool} (ha : EvL ta σ G (bs.map V.bl)) : Ev (tCB (rAll K) (tCons ta tNil)) σ G (.bl (bs.all id)) := fun H1 e Q q =>
  ha H1 e _ fun p H2 _ e2 h2 => ⟨p, bs, rfl, sq_of h2, q H2 e2⟩
theorem ev_anyN {bs : List Bool} (ha : EvL ta σ G (bs.map V.bl)) : Ev (tCB (rAny K) (tCons ta tNil)) σ G (.bl (bs.any id)) := fun H1 e Q q =>
  ha H1 e _ fun p H2 _ e2 h2 => ⟨p, bs, rfl, sq_of h2, q H2 e2⟩
/-- [e for x in xs if t] -/
theorem el_lcF {α : Type} (as : List α) (inj : α → V) (p : α → Bool) (g : α → V) {a : Addr} (h : Ev tl σ G (.ref a)) (hx : SqL K G a (as.map inj)) (hz : as.length ≤ 40000) (hw : ∀ x, wipe ((wipe σ vs).set j (some x)) vs = wipe σ vs)
    (ht : ∀ x, x ∈ as → EvT t ((wipe σ vs).set j (some (inj x))) G (p x)) (he : ∀ x, x ∈ as → p x = true → Ev te ((wipe σ vs).set j (some (inj x))) G (g x)) :
    EvL (tLc (iList K tl) (gName j) t te vs) σ G ((as.filter p).map g) := by
  cases as with
  | nil =>
    have q := el_lcL (K := K) (σ := σ) (H := G) (t := t) (te := te) (tl := tl) (j := j) (vs := vs) (a := a) (xs := []) (fun _ => true) (fun _ => V.non) h hx (Nat.zero_le _) hw (fun i x H1 _ hi => by simp at hi) (fun i x H1 _ hi => by simp at hi)
    exact q
  | cons d r =>
    have key : given (((d :: r).map inj)).length (fun i => p ((d :: r).getD i d)) (fun i => g ((d :: r).getD i d)) = ((d :: r).filter p).map g := by
      rw [List.length_map, given_all (d :: r) d p g _ (Nat.le_refl _), List.take_length]
    rw [← key]
    have item : ∀ (i : Nat) (x : V), ((d :: r).map inj)[i]? = some x → x = inj ((d :: r).getD i d) ∧ (d :: r).getD i d ∈ d :: r := fun i x hi => by
      rw [List.getElem?_map] at hi
      cases e : (d :: r)[i]? with
      | none => rw [e] at hi; cases hi
      | some y =>
        rw [e] at hi
        have e2 : (d :: r).getD i d = y := by rw [List.getD_eq_getElem?_getD, e]; rfl
        exact ⟨by rw [e2]; exact (Option.some.inj hi).symm, by rw [e2]; exact List.mem_of_getElem? e⟩
    refine el_lcL (K := K) _ _ h hx (by rw [List.length_map]; exact hz) hw (fun i x H1 e1 hi => ?_) (fun i x H1 e1 hi hf => ?_)
    · obtain ⟨rfl, hm⟩ := item i x hi
      exact (ht _ hm).mono e1
    · obtain ⟨rfl, hm⟩ := item i x hi
      exact (he _ hm hf).mono e1
theorem et_yes : EvT tYes σ G true := fun H1 _ _ q => q H1 (Ex.refl H1)
/-- [e for x in xs] -/
theorem el_lcA {α : Type} (as : List α) (inj : α → V) (g : α → V) {a : Addr} (h : Ev tl σ G (.ref a)) (hx : SqL K G a (as.map inj)) (hz : as.length ≤ 40000) (hw : ∀ x, wipe ((wipe σ vs).set j (some x)) vs = wipe σ vs)
    (he : ∀ x, x ∈ as → Ev te ((wipe σ vs).set j (some (inj x))) G (g x)) : EvL (tLc (iList K tl) (gName j) tYes te vs) σ G (as.map g) := by
  have q := el_lcF (K := K) (te := te) as inj (fun _ => true) g h hx hz hw (fun _ _ => et_yes) (fun x hx _ => he x hx)
  have e : as.filter (fun _ => true) = as := List.filter_eq_self.mpr fun _ _ => rfl
  rw [e] at q
  exact q
/-- [e for k in range(n) if t] -/
theorem el_lcRF {ta : TA} {n : Int} (p : Int → Bool) (g : Int → V) (h : EvA ta σ G [.int n]) (hn : 0 ≤ n ∧ n ≤ 40000) (hw : ∀ x, wipe ((wipe σ vs).set j (some x)) vs = wipe σ vs)
    (ht : ∀ k : Int, 0 ≤ k → k < n → EvT t ((wipe σ vs).set j (some (.int k))) G (p k)) (he : ∀ k : Int, 0 ≤ k → k < n → p k = true → Ev te ((wipe σ vs).set j (some (.int k))) G (g k)) :
    EvL (tLc (iRng1 ta) (gName j) t te vs) σ G (((List.range n.toNat).filter fun i : Nat => p (i : Int)).map fun i : Nat => g (i : Int)) := by
  have q := el_lcR1 (σ := σ) (H := G) (t := t) (te := te) (j := j) (vs := vs) (n := n) (fun i : Nat => p (i : Int)) (fun i : Nat => g (i : Int)) h hn hw (fun i H1 e1 hi => (ht i (by omega) hi).mono e1) (fun i H1 e1 hi hf => (he i (by omega) hi hf).mono e1)
  exact q
theorem el_lcR {ta : TA} {n : Int} (g : Int → V) (h : EvA ta σ G [.int n]) (hn : 0 ≤ n ∧ n ≤ 40000) (hw : ∀ x, wipe ((wipe σ vs).set j (some x)) vs = wipe σ vs)
    (he : ∀ k : Int, 0 ≤ k → k < n → Ev te ((wipe σ vs).set j (some (.int k))) G (g k)) :
    EvL (tLc (iRng1 ta) (gName j) tYes te vs) σ G ((List.range n.toNat).map fun i : Nat => g (i : Int)) := by
  have q := el_lcRF (te := te) (fun _ => true) g h hn hw (fun _ _ _ => et_yes) (fun k h0 h1 _ => he k h0 h1)
  have e : (List.range n.toNat).filter (fun _ => true) = List.range n.toNat := List.filter_eq_self.mpr fun _ _ => rfl
  rw [e] at q
  exact q
end

/-! ### what raises; chains -/
def EvF (te : TE) (σ : L2.St) (G : Hp) : Prop := ∀ H, Ex G H → ∀ Q : VK, te σ H Q
section
variable {α : Type} {A : Ads} {K : PySem.W.Frag} {σ : L2.St} {G G' H : Hp} {ta tb te tx tl : TE} {t u : TT} {x y z v : V} {D : Ends} {tu tw tz ts : TS} {g : TG} {Q : VK} {E : XK} {R : Hp → V → Hp → α → Prop} {r : Except Err α} {sp : Sp}
theorem out_err {x : Err} (h : r = .error x) (k : ∀ H', Ex H H' → E (.ref (A.of x)) none H') : Out A H Q E R r := by subst h; exact k
theorem out_ok {a : α} (h : r = .ok a) (k : ∀ v H', Ex H H' → R H v H' a → Q v H') : Out A H Q E R r := by subst h; exact k
theorem ef_call {E : L2.St → XK} {tA : TA} {vs : List V} (h : EvA tA σ G vs) (hs : ∀ H, Ex G H → ∀ Q, sp vs H Q (E σ)) : EvF (tCallS sp E tA) σ G := fun H e Q => h H e _ fun H1 e1 => hs H1 (e.trans e1) Q
theorem go_asgF (h : EvF te σ G) : Go (tSeq (tAsg te g) tz) D σ G := fun H e => h H e _
theorem go_dropF (h : EvF te σ G) : Go (tSeq (tDrop te) tz) D σ G := fun H e => h H e _
theorem go_retF (h : EvF te σ G) : Go (tSeq (tRet te) tz) D σ G := fun H e => h H e _
theorem ef_op1 {r : R2} (h : EvF ta σ G) : EvF (tOp r ta tb) σ G := fun H e _ => h H e _
theorem ev_chI {p q : Int → Int → Bool} {i j k : Int} (ha : Ev ta σ G (.int i)) (hb : Ev tb σ G (.int j)) (hc : Ev te σ G (.int k)) : Ev (tChain (rI0 fun i j => .bl (p i j)) (rI0 fun i j => .bl (q i j)) ta tb te) σ G (.bl (p i j && q j k)) :=
  ev_chain (a := p i j) ha hb rv_I0 (fun _ => hc) (fun h => by rw [h, Bool.true_and]; exact rv_I0) (fun h => by rw [h, Bool.false_and])
end

/-! ### the library's rules, their readings by names -/
section
variable {X : Cx}
def rLenZ : List V → Hp → VK → Prop := fun xs H Q => ∃ z : Str, xs = [.str z] ∧ z.length ≤ sizeLine ∧ Q (.int z.length) H
def rTupS (K : PySem.W.Frag) : List V → Hp → VK → Prop := fun xs H Q => ∃ p ys, xs = [.ref p] ∧ ((SqL K H p ys ∧ ∀ l, H l = none → Q (.ref l) (upd H l (.tup ys))) ∨ (SqT K H p ys ∧ Q (.ref p) H))
def rMin2 : List V → Hp → VK → Prop := fun xs H Q => ∃ i j, xs = [.int i, .int j] ∧ Q (.int (if j < i then j else i)) H
def rInt1 : List V → Hp → VK → Prop := fun xs H Q => (∃ i, xs = [.int i] ∧ Q (.int i) H) ∨ ∃ k, xs = [.bl k] ∧ Q (.int (if k then 1 else 0)) H
def rStrI : List V → Hp → VK → Prop := fun xs H Q => ∃ i, xs = [.int i] ∧ i.natAbs.log2 < 1920 ∧ Q (.str (toString i)) H
def rIntZ : List V → Hp → VK → Prop := fun xs H Q => ∃ a n, xs = [.str a] ∧ PySem.intText? a = some n ∧ a.length ≤ 640 ∧ Q (.int n) H
def rAddZ : R2 := fun x y H Q => ∃ i j, x = .str i ∧ y = .str j ∧ i.length + j.length ≤ sizeLine ∧ Q (.str (i ++ j)) H
theorem call_lenS : CallR X (.builtin "len") (rLenS X.K) := call_len_seq
theorem call_lenZ : CallR X (.builtin "len") rLenZ := call_len_str
theorem call_listS : CallR X (.type "list") (rListS X.K) := call_list_of
theorem call_tupS : CallR X (.type "tuple") (rTupS X.K) := call_tuple_of
theorem call_mx2 (hc : X.calm = true) : CallR X (.builtin "max") rMax2 := call_max2 hc
theorem call_mn2 (hc : X.calm = true) : CallR X (.builtin "min") rMin2 := call_min2 hc
theorem call_intB : CallR X (.type "int") rInt1 := call_int1
theorem call_strI : CallR X (.type "str") rStrI := call_str_int
theorem call_intZ : CallR X (.type "int") rIntZ := call_int_str
theorem op_addZ : OpR X (binaryOp .Add) rAddZ := op_add_str
def tTrue (K : PySem.W.Frag) (ta : TE) : TT := fun σ H Q => ta σ H fun x H' => ∃ k, TruV K x H' k ∧ Q k H'
theorem pt_tru {a : Expr} {ta : TE} (ha : PE X a ta) (he : ∀ whole, isTrue a X.env whole = (do let v ← whole; standAt a.pos; holding [v] (truthy v)) := by intro _; rfl) : PT X a (tTrue X.K ta) := pt_truth ha he
end

/-! ### == of data -/
mutual
theorem eqv_self : ∀ d : PyData, d.canLay0 = true → PyData.eqv d d = true
  | .none, _ => by simp [PyData.eqv]
  | .bool b, _ => by simp [PyData.eqv]
  | .int i, _ => by simp [PyData.eqv]
  | .str x, _ => by simp [PyData.eqv]
  | .list ds, h => by
    rw [PyData.eqv]
    exact eqvAll_self ds (by rw [PyData.canLay0] at h; exact h)
  | .tuple ds, h => by
    rw [PyData.eqv]
    exact eqvAll_self ds (by rw [PyData.canLay0] at h; exact h)
  | .dict _, h => by rw [PyData.canLay0] at h; cases h
theorem eqvAll_self : ∀ ds : List PyData, PyData.canLayAll0 ds = true → PyData.eqvAll ds ds = true
  | [], _ => by simp [PyData.eqvAll]
  | d :: ds, h => by
    rw [PyData.canLayAll0, Bool.and_eq_true] at h
    rw [PyData.eqvAll, eqv_self d h.1, eqvAll_self ds h.2]; rfl
end
mutual
theorem dp_mono {K : PySem.W.Frag} {H H' : Hp} (e : Ex H H') : ∀ (d : PyData) (v : V), Dp K H v d → Dp K H' v d
  | .none, _, h => by cases h; exact .non
  | .bool b, _, h => by cases h; exact .bl b
  | .int i, _, h => by cases h; exact .int i
  | .str x, _, h => by cases h; exact .str x
  | .list ds, _, h => by
    cases h with
    | lst hs ha => exact .lst (ex_l e hs) (dp_monoAll e ds _ ha)
  | .tuple ds, _, h => by
    cases h with
    | tup hs ha => exact .tup (ex_t e hs) (dp_monoAll e ds _ ha)
  | .dict _, _, h => by cases h
theorem dp_monoAll {K : PySem.W.Frag} {H H' : Hp} (e : Ex H H') : ∀ (ds : List PyData) (vs : List V), DpAll K H vs ds → DpAll K H' vs ds
  | [], _, h => by cases h; exact .nil
  | d :: ds, _, h => by
    cases h with
    | cons a b => exact .cons (dp_mono e d _ a) (dp_monoAll e ds _ b)
end
theorem dpAll_map {K : PySem.W.Frag} {H : Hp} {α : Type} (f : α → V) (g : α → PyData) : ∀ as : List α, (∀ a ∈ as, Dp K H (f a) (g a)) → DpAll K H (as.map f) (as.map g)
  | [], _ => .nil
  | a :: as, h => .cons (h a List.mem_cons_self) (dpAll_map f g as fun b hb => h b (List.mem_cons_of_mem _ hb))
theorem dp_bools {K : PySem.W.Frag} {H : Hp} {a : Addr} {bs : List Bool} (h : SqL K H a (bs.map V.bl)) : Dp K H (.ref a) (.list (bs.map .bool)) := .lst h (dpAll_map _ _ bs fun b _ => .bl b)
theorem dp_ints {K : PySem.W.Frag} {H : Hp} {a : Addr} {ns : List Int} (h : SqL K H a (ns.map V.int)) : Dp K H (.ref a) (.list (ns.map .int)) := .lst h (dpAll_map _ _ ns fun b _ => .int b)
theorem canLayAll_map {α : Type} (f : α → PyData) : ∀ as : List α, (∀ a ∈ as, (f a).canLay0 = true) → PyData.canLayAll0 (as.map f) = true
  | [], _ => by simp [PyData.canLayAll0]
  | a :: as, h => by
    rw [List.map_cons, PyData.canLayAll0, h a List.mem_cons_self, canLayAll_map f as fun b hb => h b (List.mem_cons_of_mem _ hb)]; rfl
theorem depthAll_map {α : Type} (f : α → PyData) (n : Nat) : ∀ as : List α, (∀ a ∈ as, (f a).depth ≤ n) → PyData.depthAll (as.map f) ≤ n
  | [], _ => by simp [PyData.depthAll]
  | a :: as, h => by
    rw [List.map_cons, PyData.depthAll]
    exact Nat.max_le.mpr ⟨h a List.mem_cons_self, depthAll_map f n as fun b hb => h b (List.mem_cons_of_mem _ hb)⟩
theorem shaped_bools (bs : List Bool) : SeqAt.shaped (.list (bs.map .bool)) = true := by
  unfold SeqAt.shaped
  rw [PyData.canLay0, PyData.depth, canLayAll_map _ bs fun _ _ => by simp [PyData.canLay0]]
  have := depthAll_map PyData.bool 0 bs fun _ _ => by simp [PyData.depth]
  simp; omega
theorem shaped_ints (ns : List Int) : SeqAt.shaped (.list (ns.map .int)) = true := by
  unfold SeqAt.shaped
  rw [PyData.canLay0, PyData.depth, canLayAll_map _ ns fun _ _ => by simp [PyData.canLay0]]
  have := depthAll_map PyData.int 0 ns fun _ _ => by simp [PyData.depth]
  simp; omega
section
variable {K : PySem.W.Frag} {σ : L2.St} {G : Hp} {x y : V} {d : PyData}
theorem rv_eqD (hx : Dp K G x d) (hy : Dp K G y d) (hs : SeqAt.shaped d = true) : RV (rEqD K) x y G (.bl true) := fun H e Q q =>
  ⟨d, d, dp_mono e d x hx, dp_mono e d y hy, hs, hs, by rw [eqv_self d (SeqAt.canLay_of_shaped hs)]; exact q H (Ex.refl H)⟩
theorem rv_neD (hx : Dp K G x d) (hy : Dp K G y d) (hs : SeqAt.shaped d = true) : RV (rNeD K) x y G (.bl false) := fun H e Q q =>
  ⟨d, d, dp_mono e d x hx, dp_mono e d y hy, hs, hs, by rw [eqv_self d (SeqAt.canLay_of_shaped hs)]; exact q H (Ex.refl H)⟩
end
/-! ### isinstance -/
section
variable {K : PySem.W.Frag} {σ : L2.St} {G : Hp} {ta tb : TE} {x c : V} {t u : Value} {b : Bool}
theorem TyOf.mono {H H' : Hp} (e : Ex H H') (h : TyOf K H x t) : TyOf K H' x t := by
  cases h with
  | non => exact .non
  | bl b => exact .bl b
  | int i => exact .int i
  | str s => exact .str s
  | flt f => exact .flt f
  | lst h => exact .lst (e _ _ h)
  | frz h => exact .frz (e _ _ h)
  | tup h => exact .tup (e _ _ h)
  | dK h => exact .dK (e _ _ h)
  | dT h => exact .dT (e _ _ h)
  | ins h => exact .ins (e _ _ h) (by assumption) (by assumption) (by assumption) (by assumption) (by assumption)
end

section
variable {K : PySem.W.Frag} {σ : L2.St} {G : Hp} {ta tb te : TE} {x c v : V} {t u : Value} {b : Bool}
theorem tyX_mono {H H' : Hp} (e : Ex H H') (h : TyX K H x t) : TyX K H' x t := by
  cases h with
  | base h => exact .base (TyOf.mono e h)
  | byt b => exact .byt b
  | set h => exact .set (e _ _ h)
  | kList h c => exact .kList h c
  | kTuple h c => exact .kTuple h c
  | kDict h c => exact .kDict h c
  | fTuple h => exact .fTuple (e _ _ h)
  | fDict h => exact .fDict (e _ _ h)
theorem ev_isi (ha : Ev ta σ G x) (hc : Ev tb σ G c) (hk : ClsV c u) (hx : TyX K G x t) (e : PySem.W.kitOne K t u = some b) : Ev (tCB (rIsi K) (tCons ta (tCons tb tNil))) σ G (.bl b) := fun H e1 Q q =>
  ha H e1 _ fun H1 e2 => hc H1 (e1.trans e2) _ fun H2 e3 => ⟨x, c, t, u, b, rfl, hk, tyX_mono ((e1.trans e2).trans e3) hx, e, q H2 (e2.trans e3)⟩
/-- [v] * k -/
theorem el_rep {k : Int} (ha : EvL ta σ G [v]) (hb : Ev tb σ G (.int k)) (h0 : -(2 ^ 63) ≤ k) (h1 : k ≤ 100000) : EvL (tOp rRep ta tb) σ G (List.replicate k.toNat v) := fun H e Q q =>
  ha H e _ fun p H1 hp e1 h => hb H1 (e.trans e1) _ fun H2 e2 => ⟨p, k, [v], rfl, rfl, e2 p _ h, h0, by omega, sz_of (by simp; omega), fun l hl => by
    have e3 : (List.replicate k.toNat [v]).flatten = List.replicate k.toNat v := by
      induction k.toNat with
      | zero => rfl
      | succ n ih => rw [List.replicate_succ, List.flatten_cons, ih]; rfl
    rw [e3]
    exact q l _ (fresh_back (e1.trans e2) hl) ((e1.trans e2).trans (Ex.new hl)) upd_same⟩
theorem el_litl {tA : TA} {vs : List V} (h : EvA tA σ G vs) (hl : vs.length ≤ 100000) : EvL (tLst tA) σ G vs := el_lst h hl
end

/-! ### a word between two statements -/
section
variable {K : PySem.W.Frag} {σ : L2.St} {G : Hp} {ta tb te : TE} {t : TT} {v : V} {D : Ends} {tu tw tz ts : TS}
theorem go_cut (M : L2.St → Hp → Prop) (h : Go ts { D with nx := Kn M } σ G) (k : ∀ σ' G', M σ' G' → Go tz D σ' G') : Go (tCut ts tz) D σ G := fun H e =>
  ⟨Kn M, h H e, fun σ' H' ⟨G', e', m⟩ => k σ' G' m H' e'⟩
theorem go_ifs {b : Bool} (h : EvT t σ G b) (h1 : b = true → Go tu D σ G) (h2 : b = false → Go tw D σ G) : Go (tIfS t tu tw) D σ G := fun H e =>
  h H e _ fun H1 e1 => by
    cases b with
    | true =>
      show tu D σ H1
      exact h1 rfl H1 (e.trans e1)
    | false =>
      show tw D σ H1
      exact h2 rfl H1 (e.trans e1)
theorem ev_ixLit {xs : List V} {i : Int} (ha : EvL ta σ G xs) (hb : Ev tb σ G (.int i)) (h : atI xs i = some v) : Ev (tOp (rIxL K) ta tb) σ G v :=
  ev_opL1 ha (fun _ e => hb.mono e) fun p H1 hp e => rv_ixL (sq_of hp) h
end

/-! ### what the top has left -/
structure DefAt (K : PySem.W.Frag) (mg : Str → Option Value) (x qual : Str) (st : Stmt) (ps : List Str) : Prop where
  ex : ∃ (f : Addr) (fd : FuncData), Fun K x qual st f fd ∧ mg x = some (.ref f) ∧ Binds K fd ps [] ∧ ∀ (s : Shared) (us : List Value), us.length = ps.length → BindsTo s fd ⟨us, []⟩ (ps.zip us)
theorem def_at {K : PySem.W.Frag} {mg : Str → Option Value} {h : Heap} {x qual : Str} {st : Stmt} {ps : List Str} {f : Addr} {oc : Value} {od an : Option Addr} {osl : Array (Option Value)} {kV doc pm cdv ct : Value} (X : K.In h) (G : h.Ns mainGlobals mg)
    (a : PySem.W.nsIn K mainGlobals x = some (some (.ref f))) (l : K.lookup f = some ⟨oc, od, .func (PySem.W.fnOf x qual (defArgs st) (defBody st) (defScope st) .none kV doc pm an cdv ct), osl⟩) (c : PySem.W.codeIn K cdv qual = true) (k : PySem.W.keepIn K (.ref f) = true)
    (b : ∀ (kV doc pm : Value) (an : Option Addr) (cdv ct : Value) (us : List Value), us.length = ps.length → bindArgs (PySem.W.fnOf x qual (defArgs st) (defBody st) (defScope st) .none kV doc pm an cdv ct) ⟨us, []⟩ = pure (ps.zip us)) : DefAt K mg x qual st ps :=
  ⟨f, _, fun_mk l c k, PySem.W.mg_of X G a, (fun_mk l c k).binds b, fun _ us hl => .of_eq (b _ _ _ _ _ _ us hl)⟩
theorem cal_of {P : Program} {w : World} {K : PySem.W.Frag} {mg : Str → Option Value} {base : Heap} {k : Nat} {x qual : Str} {st : Stmt} {ps : List Str} {sp : Sp} (d : DefAt K mg x qual st ps)
    (h : ∀ {f : Addr} {fd : FuncData}, Fun K x qual st f fd → FnOk P w K mg base (L2.CX P w) k f fd ps sp) : CalX P w K mg base k x sp := by
  obtain ⟨f, fd, F, hm, hb, _⟩ := d.ex
  exact ⟨f, fd, ps, h F, hm, F.kp, hb⟩
theorem law_of {P : Program} {w : World} {K : PySem.W.Frag} {mg : Str → Option Value} {k : Nat} {x p : Str} {st : Stmt} {sp : Sp} {fa : Addr} (d : DefAt K mg x x st [p]) (hfa : mg x = some (.ref fa))
    (h : ∀ (base : Heap) {f : Addr} {fd : FuncData}, Fun K x x st f fd → FnOk P w K mg base (L2.CX P w) k f fd [p] sp) :
    ∃ fd : FuncData, (∀ (s : Shared) (u : Value), BindsTo s fd ⟨[u], []⟩ [(p, u)]) ∧ ∀ base : Heap, K.In base → base.Ns mainGlobals mg → FnOk P w K mg base (L2.CX P w) k fa fd [p] sp := by
  obtain ⟨f, fd, F, hm, _, hb⟩ := d.ex
  have e := hm.symm.trans hfa
  cases e
  exact ⟨fd, fun s u => hb s [u] rfl, fun base _ _ => h base F⟩
def leastEs (P : Params) (a0 b0 a1 b1 a2 b2 a3 b3 a4 b4 a5 b5 a6 b6 a7 b7 a8 b8 : Tok) : List DictEntry := [{ hash := PyData.keyHash P "yes", key := .str "yes" a0, val := .int 0 b0 }, { hash := PyData.keyHash P "no", key := .str "no" a1, val := .int 0 b1 }, { hash := PyData.keyHash P "keep", key := .str "keep" a2, val := .int 1 b2 }, { hash := PyData.keyHash P "not", key := .str "not" a3, val := .int 1 b3 }, { hash := PyData.keyHash P "both", key := .str "both" a4, val := .int 2 b4 }, { hash := PyData.keyHash P "either", key := .str "either" a5, val := .int 2 b5 }, { hash := PyData.keyHash P "unlike", key := .str "unlike" a6, val := .int 2 b6 }, { hash := PyData.keyHash P "pick", key := .str "pick" a7, val := .int 3 b7 }, { hash := PyData.keyHash P "most", key := .str "most" a8, val := .int 3 b8 }]
theorem isStr_dec (a z : Str) (t : Tok) : (Value.str a t).isStr z = decide (z = a) := by
  show (a == z) = decide (z = a)
  rw [Bool.eq_iff_iff]
  simp only [decide_eq_true_eq, beq_iff_eq]
  exact ⟨fun h => h.symm, fun h => h.symm⟩
theorem least_at {K : PySem.W.Frag} {w : World} {d : Addr} {a0 b0 a1 b1 a2 b2 a3 b3 a4 b4 a5 b5 a6 b6 a7 b7 a8 b8 : Tok}
    (hl : K.lookup d = some { cls := .type "dict", data := .dict #[{ hash := PyData.keyHash w.params "yes", key := .str "yes" a0, val := .int 0 b0 }, { hash := PyData.keyHash w.params "no", key := .str "no" a1, val := .int 0 b1 }, { hash := PyData.keyHash w.params "keep", key := .str "keep" a2, val := .int 1 b2 }, { hash := PyData.keyHash w.params "not", key := .str "not" a3, val := .int 1 b3 }, { hash := PyData.keyHash w.params "both", key := .str "both" a4, val := .int 2 b4 }, { hash := PyData.keyHash w.params "either", key := .str "either" a5, val := .int 2 b5 }, { hash := PyData.keyHash w.params "unlike", key := .str "unlike" a6, val := .int 2 b6 }, { hash := PyData.keyHash w.params "pick", key := .str "pick" a7, val := .int 3 b7 }, { hash := PyData.keyHash w.params "most", key := .str "most" a8, val := .int 3 b8 }] 9 }) (low : (d == sysModules) = false) : LeastAt K w d := by
  have hn : ∀ z, PySem.W.nsIn K d z = (match List.find? (fun x : DictEntry => x.key.isStr z) (leastEs w.params a0 b0 a1 b1 a2 b2 a3 b3 a4 b4 a5 b5 a6 b6 a7 b7 a8 b8) with
    | some e => some (some e.val)
    | none => some none) := fun z => by
    unfold PySem.W.nsIn
    rw [show List.lookup d K = some _ from hl]
    show (match List.find? (fun x : DictEntry => x.key.isStr z) (leastEs w.params a0 b0 a1 b1 a2 b2 a3 b3 a4 b4 a5 b5 a6 b6 a7 b7 a8 b8) with | some e => some (some e.val) | none => if (leastEs w.params a0 b0 a1 b1 a2 b2 a3 b3 a4 b4 a5 b5 a6 b6 a7 b7 a8 b8).any (fun x => x.refKey) = true then none else some none) = _
    have hr : (leastEs w.params a0 b0 a1 b1 a2 b2 a3 b3 a4 b4 a5 b5 a6 b6 a7 b7 a8 b8).any (fun x => x.refKey) = false := rfl
    rw [hr]
    rfl
  refine ⟨⟨_, 9, hl, ?_, low⟩, fun z hz => ?_, fun z i hz => ?_⟩
  · exact ⟨⟨_, _, rfl, rfl⟩, ⟨_, _, rfl, rfl⟩, ⟨_, _, rfl, rfl⟩, ⟨_, _, rfl, rfl⟩, ⟨_, _, rfl, rfl⟩, ⟨_, _, rfl, rfl⟩, ⟨_, _, rfl, rfl⟩, ⟨_, _, rfl, rfl⟩, ⟨_, _, rfl, rfl⟩, trivial⟩
  · rw [hn z]
    unfold least at hz
    unfold leastEs
    simp only [List.find?_cons, isStr_dec]
    repeat' split at hz
    all_goals first | (cases hz; done) | (simp [*])
  · rw [hn z]
    unfold least at hz
    unfold leastEs
    simp only [List.find?_cons, isStr_dec]
    repeat' split at hz
    all_goals first | (cases hz; done) | (cases hz; subst_vars; exact ⟨_, rfl⟩)
/-! ### loops -/
section
variable {K : PySem.W.Frag} {σ : L2.St} {G B : Hp} {ta tb te tl : TE} {t : TT} {v : V} {D : Ends} {tu tw tz ts : TS} {j : Nat}
def Kb (B : Hp) (P : L2.St → Hp → Prop) : L2.St → Hp → Prop := Kn fun σ G => Ex B G ∧ P σ G
theorem go_kb {P : L2.St → Hp → Prop} {rt : VK} {bk ct : L2.St → Hp → Prop} (hB : Ex B G) (h : P σ G) : Go tNext ⟨Kb B P, rt, bk, ct⟩ σ G := fun _ e => ⟨G, e, hB, h⟩
theorem go_forL {a : Addr} {xs : List V} (B : Hp) (h : Ev tl σ G (.ref a)) (hB : Ex B G) (hx : SqL K B a xs) (Pv : Nat → L2.St → Hp → Prop) (h0 : Pv 0 σ G)
    (hs : ∀ i x σ' G', xs[i]? = some x → Ex B G' → Pv i σ' G' → Go tu { D with nx := Kb B (Pv (i + 1)), ct := Kb B (Pv (i + 1)), bk := tz D } (σ'.set j (some x)) G')
    (hd : ∀ σ' G', Ex B G' → Pv xs.length σ' G' → Go tz D σ' G') : Go (tSeq (tFor (iList K tl) (gName j) tu) tz) D σ G := fun H e =>
  h H e _ fun H1 e1 => ⟨a, rfl, ⟨xs, ex_l ((hB.trans e).trans e1) hx⟩, for_list (fun i => Kb B (Pv i)) ⟨G, e.trans e1, hB, h0⟩ (fun i σ' H' _ ⟨G', e', b, _⟩ => ex_l (b.trans e') hx)
    (fun i x σ' H' hi ⟨G', e', b, p⟩ => hs i x σ' G' hi b p H' e') (fun σ' H' ⟨G', e', b, p⟩ => hd σ' G' b p H' e')⟩
theorem go_forT {a : Addr} {xs : List V} (B : Hp) (h : Ev tl σ G (.ref a)) (hB : Ex B G) (hx : SqT K B a xs) (Pv : Nat → L2.St → Hp → Prop) (h0 : Pv 0 σ G)
    (hs : ∀ i x σ' G', xs[i]? = some x → Ex B G' → Pv i σ' G' → Go tu { D with nx := Kb B (Pv (i + 1)), ct := Kb B (Pv (i + 1)), bk := tz D } (σ'.set j (some x)) G')
    (hd : ∀ σ' G', Ex B G' → Pv xs.length σ' G' → Go tz D σ' G') : Go (tSeq (tFor (iTup K tl) (gName j) tu) tz) D σ G := fun H e =>
  h H e _ fun H1 e1 => ⟨a, rfl, ⟨xs, ex_t ((hB.trans e).trans e1) hx⟩, for_tup (fun i => Kb B (Pv i)) ⟨G, e.trans e1, hB, h0⟩ (fun i σ' H' _ ⟨G', e', b, _⟩ => ex_t (b.trans e') hx)
    (fun i x σ' H' hi ⟨G', e', b, p⟩ => hs i x σ' G' hi b p H' e') (fun σ' H' ⟨G', e', b, p⟩ => hd σ' G' b p H' e')⟩
/-- over a list that is made on the way -/
theorem go_forNL {xs : List V} (h : EvL tl σ G xs) (Pv : Addr → Nat → L2.St → Hp → Prop) (h0 : ∀ p, G p = none → Pv p 0 σ (upd G p (.lst xs)))
    (hs : ∀ p i x σ' G', G p = none → xs[i]? = some x → Ex (upd G p (.lst xs)) G' → Pv p i σ' G' → Go tu { D with nx := Kb (upd G p (.lst xs)) (Pv p (i + 1)), ct := Kb (upd G p (.lst xs)) (Pv p (i + 1)), bk := tz D } (σ'.set j (some x)) G')
    (hd : ∀ p σ' G', G p = none → Ex (upd G p (.lst xs)) G' → Pv p xs.length σ' G' → Go tz D σ' G') : Go (tSeq (tFor (iList K tl) (gName j) tu) tz) D σ G := fun H e =>
  h H e _ fun p H1 hp e1 h1 => ⟨p, rfl, ⟨xs, sq_of h1⟩, for_list (fun i => Kb (upd G p (.lst xs)) (Pv p i)) ⟨_, (e.trans e1).know h1 (e.none hp), Ex.refl _, h0 p (e.none hp)⟩ (fun i σ' H' _ ⟨G', e', b, _⟩ => sq_of (e' _ _ (b _ _ upd_same)))
    (fun i x σ' H' hi ⟨G', e', b, q⟩ => hs p i x σ' G' (e.none hp) hi b q H' e') (fun σ' H' ⟨G', e', b, q⟩ => hd p σ' G' (e.none hp) b q H' e')⟩
theorem go_forR1 {tA : TA} {n : Int} (B : Hp) (h : EvA tA σ G [.int n]) (hn : n ≤ 100000 ∧ -100000 ≤ n) (hB : Ex B G) (Pv : Int → L2.St → Hp → Prop) (h0 : Pv 0 σ G)
    (hs : ∀ (k : Int) σ' G', 0 ≤ k → k < n → Ex B G' → Pv k σ' G' → Go tu { D with nx := Kb B (Pv (k + 1)), ct := Kb B (Pv (k + 1)), bk := tz D } (σ'.set j (some (.int k))) G')
    (hd : ∀ σ' G', Ex B G' → Pv (n.toNat : Int) σ' G' → Go tz D σ' G') : Go (tSeq (tFor (iRng1 tA) (gName j) tu) tz) D σ G := fun H e =>
  h H e _ fun H1 e1 => ⟨n, rfl, by omega, by omega, for_range (lo := 0) (n := n.toNat) (fun i : Nat => Kb B (Pv (i : Int))) ⟨G, e.trans e1, hB, h0⟩ (fun i σ' H' hi ⟨G', e', b, p⟩ => by
    have e0 : (0 : Int) + (i : Int) = (i : Int) := Int.zero_add _
    show tu _ (σ'.set j (some (.int ((0 : Int) + (i : Int))))) H'
    rw [e0]
    have q := hs (i : Int) σ' G' (by omega) (by omega) b p H' e'
    exact q) (fun σ' H' ⟨G', e', b, p⟩ => hd σ' G' b p H' e')⟩
theorem go_forR2 {tA : TA} {lo n : Int} (B : Hp) (h : EvA tA σ G [.int lo, .int n]) (hn : -100000 ≤ lo ∧ lo ≤ 100000 ∧ n ≤ 100000 ∧ -100000 ≤ n) (hB : Ex B G) (Pv : Int → L2.St → Hp → Prop) (h0 : Pv lo σ G)
    (hs : ∀ (k : Int) σ' G', lo ≤ k → k < n → Ex B G' → Pv k σ' G' → Go tu { D with nx := Kb B (Pv (k + 1)), ct := Kb B (Pv (k + 1)), bk := tz D } (σ'.set j (some (.int k))) G')
    (hd : ∀ σ' G', Ex B G' → Pv (lo + ((n - lo).toNat : Int)) σ' G' → Go tz D σ' G') : Go (tSeq (tFor (iRng2 tA) (gName j) tu) tz) D σ G := fun H e =>
  h H e _ fun H1 e1 => ⟨lo, n, rfl, ⟨by omega, by omega, by omega, by omega⟩, for_range (lo := lo) (n := (n - lo).toNat) (fun i : Nat => Kb B (Pv (lo + (i : Int)))) ⟨G, e.trans e1, hB, by show Pv (lo + ((0 : Nat) : Int)) σ G; rw [show lo + ((0 : Nat) : Int) = lo by omega]; exact h0⟩ (fun i σ' H' hi ⟨G', e', b, p⟩ => by
    have e0 : lo + (i : Int) + 1 = lo + ((i + 1 : Nat) : Int) := by omega
    have q := hs (lo + (i : Int)) σ' G' (by omega) (by omega) b p H' e'
    rw [e0] at q
    exact q) (fun σ' H' ⟨G', e', b, p⟩ => hd σ' G' b p H' e')⟩
/-- while: a word that falls -/
theorem go_while (W : Nat → L2.St → Hp → Prop) (m0 : Nat) (h0 : W m0 σ G)
    (hs : ∀ m σ' G', W m σ' G' → ∃ b, EvT t σ' G' b ∧ (b = true → Go tu { D with nx := Kn (fun σ2 G2 => ∃ m', m' < m ∧ W m' σ2 G2), ct := Kn (fun σ2 G2 => ∃ m', m' < m ∧ W m' σ2 G2), bk := tz D } σ' G') ∧ (b = false → Go tz D σ' G')) : Go (tSeq (tWhile t tu) tz) D σ G := fun H e =>
  ⟨fun m => Kn (W m), ⟨m0, G, e, h0⟩, fun m σ' H' ⟨G', e', w⟩ => by
    obtain ⟨b, hb, h1, h2⟩ := hs m σ' G' w
    refine hb H' e' _ fun H1 e1 => ?_
    cases b with
    | true => exact ⟨Kn (fun σ2 G2 => ∃ m', m' < m ∧ W m' σ2 G2), fun σ2 H2 ⟨G2, e2, m', hm, w2⟩ => ⟨m', hm, G2, e2, w2⟩, h1 rfl H1 (e'.trans e1)⟩
    | false => exact h2 rfl H1 (e'.trans e1)⟩
end
section
variable {K : PySem.W.Frag} {σ : L2.St} {G B : Hp} {ta tb te tl : TE} {t : TT} {v : V} {D : Ends} {tu tw tz ts : TS} {j p q : Nat}
/-- for place, x in enumerate(xs) -/
theorem go_forE {a : Addr} {xs : List V} {tA : TA} (B : Hp) (h : EvA tA σ G [.ref a]) (hB : Ex B G) (hx : SqL K B a xs) (Pv : Nat → L2.St → Hp → Prop) (h0 : Pv 0 σ G)
    (hs : ∀ i x σ' G', xs[i]? = some x → Ex B G' → Pv i σ' G' → Go tu { D with nx := Kb B (Pv (i + 1)), ct := Kb B (Pv (i + 1)), bk := tz D } ((σ'.set p (some (.int (i : Int)))).set q (some x)) G')
    (hd : ∀ σ' G', Ex B G' → Pv xs.length σ' G' → Go tz D σ' G') : Go (tSeq (tFor (iEnum K tA) (gTup K 2 (gCons (gName p) (gCons (gName q) gNil))) tu) tz) D σ G := fun H e =>
  h H e _ fun H1 e1 => ⟨a, xs, rfl, ex_l ((hB.trans e).trans e1) hx, fun i m σ H => m = xs.length - i ∧ i ≤ xs.length ∧ Kb B (Pv i) σ H, ⟨xs.length, by simp, Nat.zero_le _, G, e.trans e1, hB, h0⟩, by
    rintro i m σ' H' ⟨rfl, hi, G', e', b, pv⟩
    have hq : SqL K H' a xs := ex_l (b.trans e') hx
    by_cases hlt : i < xs.length
    · refine .inr ⟨⟨xs, xs[i], hq, by simp [hlt]⟩, Kb B (Pv (i + 1)), fun σ2 H2 p' => ⟨xs.length - (i + 1), by omega, rfl, hlt, p'⟩, fun x H2 y => ?_⟩
      obtain ⟨T, x', rfl, hT, rfl, hf⟩ := y
      have e2 : Ex G' (upd H' T (.tup [.int (i : Nat), x'])) := e'.trans (Ex.new hT)
      exact ⟨T, [.int (i : Nat), x'], rfl, st_of upd_same, rfl, _, _, rfl, _, _, rfl, rfl, hs i x' σ' G' (hf xs hq) b pv _ e2⟩
    · have ei : i = xs.length := by omega
      subst ei
      exact .inl ⟨⟨xs, hq, Nat.le_refl _⟩, hd σ' G' b pv H' e'⟩⟩
end
section
variable {K : PySem.W.Frag} {σ : L2.St} {G G' H : Hp} {ta tb te tx tl : TE} {t u : TT} {x y z v : V} {D : Ends} {tu tw tz ts : TS} {g : TG} {j : Nat} {vs : List Nat}
theorem el_lcT {a : Addr} {xs : List V} {tl : TE} {j : Nat} {vs : List Nat} (f : Nat → Bool) (v : Nat → V) (h : Ev tl σ H (.ref a)) (hx : SqT K H a xs) (hz : xs.length ≤ 40000) (hw : ∀ x, wipe ((wipe σ vs).set j (some x)) vs = wipe σ vs)
    (ht : ∀ (i : Nat) (x : V) H1, Ex H H1 → xs[i]? = some x → EvT t ((wipe σ vs).set j (some x)) H1 (f i)) (he : ∀ (i : Nat) (x : V) H1, Ex H H1 → xs[i]? = some x → f i = true → Ev te ((wipe σ vs).set j (some x)) H1 (v i)) :
    EvL (tLc (iTup K tl) (gName j) t te vs) σ H (given xs.length f v) := fun H0 e Q q => h H0 e _ fun H1 e1 => ⟨a, rfl, ⟨xs, ex_t (e.trans e1) hx⟩, fun Dl hD =>
  lc_tup (xs := xs) (Cw H1 f v Dl) ⟨hD, Ex.new hD, upd_same⟩ (fun i H' _ p => ex_t ((e.trans e1).trans p.2.1) hx) (fun i x H' hi p => ⟨hw x, cw_turn p (by have := (List.getElem?_eq_some_iff.mp hi).1; omega) (ht i x H1 (e.trans e1) hi) (fun hf => he i x H1 (e.trans e1) hi hf)⟩)
    (fun H' p => q Dl H' (fresh_back e1 p.1) (e1.trans p.2.1) p.2.2)⟩
/-- .. xs a tuple -/
theorem el_lcTF {α : Type} (as : List α) (inj : α → V) (p : α → Bool) (g : α → V) {a : Addr} (h : Ev tl σ G (.ref a)) (hx : SqT K G a (as.map inj)) (hz : as.length ≤ 40000) (hw : ∀ x, wipe ((wipe σ vs).set j (some x)) vs = wipe σ vs)
    (ht : ∀ x, x ∈ as → EvT t ((wipe σ vs).set j (some (inj x))) G (p x)) (he : ∀ x, x ∈ as → p x = true → Ev te ((wipe σ vs).set j (some (inj x))) G (g x)) :
    EvL (tLc (iTup K tl) (gName j) t te vs) σ G ((as.filter p).map g) := by
  cases as with
  | nil =>
    have q := el_lcT (K := K) (σ := σ) (H := G) (t := t) (te := te) (tl := tl) (j := j) (vs := vs) (a := a) (xs := []) (fun _ => true) (fun _ => V.non) h hx (Nat.zero_le _) hw (fun i x H1 _ hi => by simp at hi) (fun i x H1 _ hi => by simp at hi)
    exact q
  | cons d r =>
    have key : given (((d :: r).map inj)).length (fun i => p ((d :: r).getD i d)) (fun i => g ((d :: r).getD i d)) = ((d :: r).filter p).map g := by
      rw [List.length_map, given_all (d :: r) d p g _ (Nat.le_refl _), List.take_length]
    rw [← key]
    have item : ∀ (i : Nat) (x : V), ((d :: r).map inj)[i]? = some x → x = inj ((d :: r).getD i d) ∧ (d :: r).getD i d ∈ d :: r := fun i x hi => by
      rw [List.getElem?_map] at hi
      cases e : (d :: r)[i]? with
      | none => rw [e] at hi; cases hi
      | some y =>
        rw [e] at hi
        have e2 : (d :: r).getD i d = y := by rw [List.getD_eq_getElem?_getD, e]; rfl
        exact ⟨by rw [e2]; exact (Option.some.inj hi).symm, by rw [e2]; exact List.mem_of_getElem? e⟩
    refine el_lcT (K := K) _ _ h hx (by rw [List.length_map]; exact hz) hw (fun i x H1 e1 hi => ?_) (fun i x H1 e1 hi hf => ?_)
    · obtain ⟨rfl, hm⟩ := item i x hi
      exact (ht _ hm).mono e1
    · obtain ⟨rfl, hm⟩ := item i x hi
      exact (he _ hm hf).mono e1
/-- .. xs a tuple -/
theorem el_lcTA {α : Type} (as : List α) (inj : α → V) (g : α → V) {a : Addr} (h : Ev tl σ G (.ref a)) (hx : SqT K G a (as.map inj)) (hz : as.length ≤ 40000) (hw : ∀ x, wipe ((wipe σ vs).set j (some x)) vs = wipe σ vs)
    (he : ∀ x, x ∈ as → Ev te ((wipe σ vs).set j (some (inj x))) G (g x)) : EvL (tLc (iTup K tl) (gName j) tYes te vs) σ G (as.map g) := by
  have q := el_lcTF (K := K) (te := te) as inj (fun _ => true) g h hx hz hw (fun _ _ => et_yes) (fun x hx _ => he x hx)
  have e : as.filter (fun _ => true) = as := List.filter_eq_self.mpr fun _ _ => rfl
  rw [e] at q
  exact q
end
/-! ### the rules that speak of the written part, with it told -/
section
variable {X : Cx} (K : PySem.W.Frag)
theorem ixL (h : X.K = K := by rfl) : IxR X (rIxL K) := h ▸ ix_list
theorem ixT (h : X.K = K := by rfl) : IxR X (rIxT K) := h ▸ ix_tup
theorem c_len (h : X.K = K := by rfl) : CallR X (.builtin "len") (rLenS K) := h ▸ call_lenS
theorem c_list (h : X.K = K := by rfl) : CallR X (.type "list") (rListS K) := h ▸ call_listS
theorem c_tup (h : X.K = K := by rfl) : CallR X (.type "tuple") (rTupS K) := h ▸ call_tupS
theorem c_all (hc : X.calm = true) (h : X.K = K := by rfl) : CallR X (.builtin "all") (rAll K) := h ▸ cr_all hc
theorem c_any (hc : X.calm = true) (h : X.K = K := by rfl) : CallR X (.builtin "any") (rAny K) := h ▸ cr_any hc
theorem c_max (hc : X.calm = true) (h : X.K = K := by rfl) : CallR X (.builtin "max") (rMax K) := h ▸ cr_max hc
theorem c_isi (h : X.K = K := by rfl) : CallR X (.builtin "isinstance") (rIsi K) := h ▸ call_isi
theorem slL (h : X.K = K := by rfl) : L2.SlR X (rSlL K) := h ▸ sl_list
theorem slA (h : X.K = K := by rfl) : L2.SlR X (rSlA K) := h ▸ sl_tupA
theorem o_in (h : X.K = K := by rfl) : OpR X (compareOp .In) (rIn K false) := h ▸ op_in_seq
theorem o_notIn (h : X.K = K := by rfl) : OpR X (compareOp .NotIn) (rIn K true) := h ▸ op_notIn_seq
theorem o_eqD (hu : X.A.units + 64 < cLine) (h : X.K = K := by rfl) : OpR X (compareOp .Eq) (rEqD K) := h ▸ op_eqD hu
theorem o_neD (hu : X.A.units + 64 < cLine) (h : X.K = K := by rfl) : OpR X (compareOp .NotEq) (rNeD K) := h ▸ op_neD hu
theorem o_catA (h : X.K = K := by rfl) : OpR X (binaryOp .Add) (rCatA K) := h ▸ op_catA
theorem o_repT (h : X.K = K := by rfl) : OpR X (binaryOp .Mult) (rRepT K) := h ▸ op_repT
theorem pt_truK {a : Expr} {ta : TE} (ha : PE X a ta) (he : ∀ whole, isTrue a X.env whole = (do let v ← whole; standAt a.pos; holding [v] (truthy v)) := by intro _; rfl) (h : X.K = K := by rfl) : PT X a (tTrue K ta) := h ▸ pt_tru ha he
theorem pi_L {tg l : Expr} {tl : TE} (hl : PE X l tl) (h : X.K = K := by rfl) : PI X tg l (iList K tl) := h ▸ pi_list hl
theorem pi_T {tg l : Expr} {tl : TE} (hl : PE X l tl) (h : X.K = K := by rfl) : PI X tg l (iTup K tl) := h ▸ pi_tup hl
end
section
variable {K : PySem.W.Frag} {σ : L2.St} {G B : Hp} {ta tb te tl : TE} {t : TT} {x v : V} {D : Ends} {tu tw tz ts : TS} {j : Nat} {vs : List Nat}
theorem rv_notN : RV rNotN x .non G (.bl (!decide (x = .non))) := fun H1 _ _ q => ⟨rfl, q H1 (Ex.refl H1)⟩
theorem rv_isN : RV rIsN x .non G (.bl (decide (x = .non))) := fun H1 _ _ q => ⟨rfl, q H1 (Ex.refl H1)⟩
theorem ep_op1 {r : R2} {P R : V → Hp → Prop} (h : EvP ta σ G P) (k : ∀ v G', Ex G G' → P v G' → ∃ y z, Ev tb σ G' y ∧ RV r v y G' z ∧ R z G') : EvP (tOp r ta tb) σ G R := fun H e Q q =>
  h H e _ fun v G1 H1 g1 g2 e1 p => by
    obtain ⟨y, z, hy, hr, hR⟩ := k v G1 g1 p
    exact hy H1 g2 _ fun H2 e2 => hr H2 (g2.trans e2) Q fun H3 e3 => q z G1 H3 g1 ((g2.trans e2).trans e3) ((e1.trans e2).trans e3) hR
/-- arguments one of which raises -/
def EvAF (tA : TA) (σ : L2.St) (G : Hp) : Prop := ∀ H, Ex G H → ∀ Q, tA σ H Q
theorem eaf_hd {tA : TA} (h : EvF te σ G) : EvAF (tCons te tA) σ G := fun H e _ => h H e _
theorem eaf_tl {tA : TA} (h : Ev te σ G v) (h2 : EvAF tA σ G) : EvAF (tCons te tA) σ G := fun H e _ => h H e _ fun H1 e1 => h2 H1 (e.trans e1) _
theorem ef_lcR1 {tA : TA} {g : TG} (h : EvAF tA σ G) : EvF (tLc (iRng1 tA) g t te vs) σ G := fun H e _ => h H e _
theorem ef_callA {sp : Sp} {E : L2.St → XK} {tA : TA} (h : EvAF tA σ G) : EvF (tCallS sp E tA) σ G := fun H e _ => h H e _
theorem ef_cb {r : List V → Hp → VK → Prop} {tA : TA} (h : EvAF tA σ G) : EvF (tCB r tA) σ G := fun H e _ => h H e _
theorem go_forF {tA : TA} {g : TG} (h : EvAF tA σ G) : Go (tSeq (tFor (iRng1 tA) g tu) tz) D σ G := fun H e => h H e _
theorem go_forLF {g : TG} (h : EvF tl σ G) : Go (tSeq (tFor (iList K tl) g tu) tz) D σ G := fun H e => h H e _
end
section
variable {K : PySem.W.Frag} {σ : L2.St} {G B : Hp} {ta tb te tl : TE} {t : TT} {x v : V} {D : Ends} {tu tw tz ts : TS} {j : Nat} {vs : List Nat}
/-- tuple(xs) of a list: a new tuple -/
theorem eu_tupL {p : Addr} {xs : List V} (ha : Ev ta σ G (.ref p)) (h : SqL K G p xs) : EvU (tCB (rTupS K) (tCons ta tNil)) σ G xs := fun H1 e Q q =>
  ha H1 e _ fun H2 e2 => ⟨p, xs, rfl, Or.inl ⟨ex_l (e.trans e2) h, fun l hl => q l _ (fresh_back e2 hl) (e2.trans (Ex.new hl)) upd_same⟩⟩
theorem eu_tupNL {xs : List V} (ha : EvL ta σ G xs) : EvU (tCB (rTupS K) (tCons ta tNil)) σ G xs := fun H1 e Q q =>
  ha H1 e _ fun p H2 hp e2 h2 => ⟨p, xs, rfl, Or.inl ⟨sq_of h2, fun l hl => q l _ (fresh_back e2 hl) (e2.trans (Ex.new hl)) upd_same⟩⟩
/-- xs[lo:hi] of a list, small ends -/
theorem cut_nat {xs : List V} {a b : Nat} (h : a ≤ b) : cutV xs (some (a : Int)) (some (b : Int)) = (xs.drop a).take (b - a) := by
  unfold cutV
  rw [HT.sIx_nat, HT.sIx_nat]
  by_cases c : a ≤ xs.length
  · rw [Nat.min_eq_left c]
    by_cases c2 : b ≤ xs.length
    · rw [Nat.min_eq_left c2]
    · rw [Nat.min_eq_right (by omega), List.take_of_length_le (by rw [List.length_drop]; omega), List.take_of_length_le (by rw [List.length_drop]; omega)]
  · rw [Nat.min_eq_right (by omega), Nat.min_eq_right (by omega), List.drop_of_length_le (Nat.le_refl _), List.drop_of_length_le (by omega)]
    simp
end
theorem ty_list {K : PySem.W.Frag} {H : Hp} {a : Addr} {xs : List V} (h : SqL K H a xs) : TyX K H (.ref a) (.type "list") := by
  rcases h with (h | ⟨o, h⟩) | ⟨o, _, _, h, c, _⟩
  · exact .base (.lst h)
  · exact .base (.frz h)
  · exact .kList h c
theorem ty_tuple {K : PySem.W.Frag} {H : Hp} {a : Addr} {xs : List V} (h : SqT K H a xs) : TyX K H (.ref a) (.type "tuple") := by
  rcases h with (h | ⟨o, h⟩) | ⟨o, _, _, h, c, _⟩
  · exact .base (.tup h)
  · exact .fTuple h
  · exact .kTuple h c
/-! ### max(xs, default=d) of ints -/
def maxOr (d : Int) : List Int → Int
  | [] => d
  | n :: r => r.foldl max n
def rMaxDef (K : PySem.W.Frag) : List V → List V → Hp → VK → Prop := fun xs zs H Q => ∃ (a : Addr) (ns : List Int) (d : Int), xs = [.ref a] ∧ zs = [.int d] ∧ SqL K H a (ns.map V.int) ∧ Q (.int (maxOr d ns)) H
theorem depthAll_ints : ∀ ns : List Int, PyData.depthAll (ns.map PyData.int) = 0
  | [] => by simp [PyData.depthAll]
  | n :: r => by rw [List.map_cons, PyData.depthAll, depthAll_ints r]; simp [PyData.depth]
theorem alike_ints (ns : List Int) : PySem.W.AlikeAll (ns.map PyData.int) := by
  refine ⟨fun x hx y hy => ?_, fun x hx => ?_⟩
  · obtain ⟨i, _, rfl⟩ := List.mem_map.mp hx
    obtain ⟨j, _, rfl⟩ := List.mem_map.mp hy
    rfl
  · obtain ⟨i, _, rfl⟩ := List.mem_map.mp hx
    intro h; cases h
theorem cr_maxDef {X : Cx} (hc : X.calm = true) (hu : X.A.units + 64 < cLine) (K : PySem.W.Frag) (h : X.K = K := by rfl) : CallRK X (.builtin "max") [Str.ofString "default"] (rMaxDef K) := by
  subst h
  intro pins s σ H vs zs us ws Q I r rz h
  obtain ⟨a, ns, d, rfl, rfl, hs, q⟩ := h
  obtain rfl := Vals.ref1 r
  obtain ⟨w1, rfl, e1⟩ := vals1 rz
  obtain ⟨t, rfl⟩ := e1
  obtain ⟨its, rv, hl, _⟩ := I.list hs
  have hi := rv.ints
  refine PySem.W.max_list_default (vs := its.toArray) (I.ok.hd hc) hl.isList (hi.reads _) (alike_ints ns) (by rw [depthAll_ints]; omega) (fun e0 h' tk hk => ?_) (fun y ys i v h' tk bs e0 hv hR hk => ?_)
  · have : ns = [] := by simpa using e0
    subst this
    exact ⟨.int d, H, I.kept hk, ⟨_, rfl⟩, q⟩
  · cases ns with
    | nil => cases e0
    | cons n r =>
      rw [List.map_cons] at e0
      cases e0
      rw [PySem.W.maxD_ints] at hR
      cases hR
      exact ⟨.int (r.foldl max n), H, I.kept hk, ⟨_, rfl⟩, q⟩
section
variable {K : PySem.W.Frag} {σ : L2.St} {G : Hp} {ta tb : TE}
theorem ev_maxDefN {ns : List Int} {d : Int} (h : EvL ta σ G (ns.map V.int)) (h2 : Ev tb σ G (.int d)) : Ev (tCKw (rMaxDef K) (tCons ta tNil) (tCons tb tNil)) σ G (.int (maxOr d ns)) := fun H e Q q =>
  h H e _ fun p H1 hp e1 h1 => h2 H1 (e.trans e1) _ fun H2 e2 => ⟨p, ns, d, rfl, rfl, sq_of (e2 _ _ h1), q H2 (e1.trans e2)⟩
theorem ef_maxDef {r : List V → List V → Hp → VK → Prop} (h : EvF ta σ G) : EvF (tCKw r (tCons ta tNil) (tCons tb tNil)) σ G := fun H e _ => h H e _
end
/-! ### max of a list of ints that is made on the way -/
theorem maxOr_spec {n : Int} : ∀ r : List Int, maxOr 0 (n :: r) ∈ n :: r ∧ ∀ y, y ∈ n :: r → y ≤ maxOr 0 (n :: r) := by
  intro r
  show r.foldl max n ∈ n :: r ∧ ∀ y, y ∈ n :: r → y ≤ r.foldl max n
  induction r generalizing n with
  | nil => exact ⟨List.mem_cons_self, fun y hy => by rw [List.mem_singleton.mp hy]; exact Int.le_refl _⟩
  | cons k r ih =>
    rw [List.foldl_cons]
    obtain ⟨h1, h2⟩ := ih (n := max n k)
    constructor
    · rcases List.mem_cons.mp h1 with h | h
      · by_cases c : n ≤ k
        · rw [h, Int.max_eq_right c]; exact List.mem_cons_of_mem _ List.mem_cons_self
        · rw [h, Int.max_eq_left (by omega)]; exact List.mem_cons_self
      · exact List.mem_cons_of_mem _ (List.mem_cons_of_mem _ h)
    · intro y hy
      have h3 := h2 (max n k) List.mem_cons_self
      have := Int.le_max_left n k
      have := Int.le_max_right n k
      rcases List.mem_cons.mp hy with rfl | hy
      · omega
      · rcases List.mem_cons.mp hy with rfl | hy
        · omega
        · exact h2 y (List.mem_cons_of_mem _ hy)
theorem maxOr_un {ns : List Int} {m d : Int} (hm : m ∈ ns) (hu : ∀ y ∈ ns, y ≤ m) : m = maxOr d ns := by
  cases ns with
  | nil => cases hm
  | cons n r =>
    obtain ⟨h1, h2⟩ := maxOr_spec (n := n) r
    have e : maxOr d (n :: r) = maxOr 0 (n :: r) := rfl
    rw [e]
    have := hu _ h1
    have := h2 _ hm
    omega
theorem ev_maxN {K : PySem.W.Frag} {σ : L2.St} {G : Hp} {ta : TE} {ns : List Int} (h : EvL ta σ G (ns.map V.int)) (h0 : 0 < ns.length) : Ev (tCB (rMax K) (tCons ta tNil)) σ G (.int (maxOr 0 ns)) := fun H e Q q =>
  h H e _ fun p H1 _ e1 h1 => ⟨p, ns, rfl, sq_of h1, h0, fun m hm hu => by rw [maxOr_un (d := 0) hm hu]; exact q H1 e1⟩
section
variable {K : PySem.W.Frag} {σ : L2.St} {G : Hp} {ta tb tl : TE} {x : V} {D : Ends} {tu tz : TS} {j : Nat} {r : R2} {xs : List V}
theorem ef_op2 (h : Ev ta σ G x) (h2 : EvF tb σ G) : EvF (tOp r ta tb) σ G := fun H e _ => h H e _ fun H1 e1 => h2 H1 (e.trans e1) _
theorem ef_opL2 (h : EvL ta σ G xs) (h2 : EvF tb σ G) : EvF (tOp r ta tb) σ G := fun H e _ => h H e _ fun p H1 _ e1 _ => h2 H1 (e.trans e1) _
end
section
variable {K : PySem.W.Frag} {σ : L2.St} {G : Hp} {tl : TE} {x : V} {D : Ends} {tu tz : TS} {j : Nat}
/-- over a list that is made on the way; B: what stays in the body -/
theorem go_forNB {xs : List V} (B : Hp) (h : EvL tl σ G xs) (hB : Ex B G) (Pv : Addr → Nat → L2.St → Hp → Prop) (h0 : ∀ p, G p = none → Pv p 0 σ (upd G p (.lst xs)))
    (hs : ∀ p i x σ' G', G p = none → xs[i]? = some x → Ex (upd B p (.lst xs)) G' → Pv p i σ' G' → Go tu { D with nx := Kb (upd B p (.lst xs)) (Pv p (i + 1)), ct := Kb (upd B p (.lst xs)) (Pv p (i + 1)), bk := tz D } (σ'.set j (some x)) G')
    (hd : ∀ p σ' G', G p = none → Ex (upd B p (.lst xs)) G' → Pv p xs.length σ' G' → Go tz D σ' G') : Go (tSeq (tFor (iList K tl) (gName j) tu) tz) D σ G := fun H e =>
  h H e _ fun p H1 hp e1 h1 => ⟨p, rfl, ⟨xs, sq_of h1⟩, for_list (fun i => Kb (upd B p (.lst xs)) (Pv p i)) ⟨upd G p (.lst xs), (e.trans e1).know h1 (e.none hp), Ex.put hB, h0 p (e.none hp)⟩ (fun i σ' H' _ ⟨G', e', b, _⟩ => sq_of (e' _ _ (b _ _ upd_same)))
    (fun i x σ' H' hi ⟨G', e', b, q⟩ => hs p i x σ' G' (e.none hp) hi b q H' e') (fun σ' H' ⟨G', e', b, q⟩ => hd p σ' G' (e.none hp) b q H' e')⟩
end
section
variable {K : PySem.W.Frag} {σ : L2.St} {G : Hp} {ta : TE} {a : Addr} {xs : List V} {b : Bool}
theorem et_truT (h : Ev ta σ G (.ref a)) (hx : SqT K G a xs) (hb : b = !xs.isEmpty) : EvT (tTrue K ta) σ G b := fun H e Q q =>
  h H e _ fun H1 e1 => ⟨b, .inr (.inl ⟨xs, ex_t (e.trans e1) hx, hb⟩), q H1 e1⟩
theorem et_truL (h : Ev ta σ G (.ref a)) (hx : SqL K G a xs) (hb : b = !xs.isEmpty) : EvT (tTrue K ta) σ G b := fun H e Q q =>
  h H e _ fun H1 e1 => ⟨b, .inl ⟨xs, ex_l (e.trans e1) hx, hb⟩, q H1 e1⟩
end
/-- an if that is the last of its body: it ends as the body ends -/
theorem go_cutN {σ : L2.St} {G : Hp} {D : Ends} {ts : TS} (h : Go ts D σ G) : Go (tCut ts tNext) D σ G := fun H e => ⟨D.nx, h H e, fun _ _ m => m⟩
end Sg

namespace Sg
open PySem L2 Evl

/-! ### the program, plain -/
def wantsM (z : Str) : Except Err (Int × Int) := match least z with
  | none => .error .kind
  | some i => .ok (i, if i = 2 then 9 else i)
/-- what a kind answers of its sources' values -/
def answerV (z : Str) (bs : List Bool) : Bool :=
  if z = "yes" ∨ z = "no" then decide (z = "yes")
  else if z = "keep" ∨ z = "not" then decide (bs.getD 0 false = decide (z = "keep"))
  else if z = "both" then bs.all id
  else if z = "either" then bs.any id
  else if z = "pick" then (if bs.getD 0 false = true then bs.getD 1 false else bs.getD 2 false)
  else if z = "most" then decide (2 ≤ ((bs.filter id).length : Int))
  else decide (((bs.filter id).length : Int) % 2 = 1)
def answerM (z : Str) (bs : List Bool) : Except Err Bool := match wantsM z with
  | .error e => .error e
  | .ok (lo, hi) => if lo ≤ bs.length ∧ (bs.length : Int) ≤ hi then .ok (answerV z bs) else .error .sources

theorem answerM_ok {z : Str} {bs : List Bool} {b : Bool} (h : answerM z bs = .ok b) : b = answerV z bs ∧ ∃ i, least z = some i ∧ i ≤ bs.length := by
  unfold answerM wantsM at h
  cases e : least z with
  | none => rw [e] at h; cases h
  | some i =>
    rw [e] at h
    by_cases c : i ≤ bs.length ∧ (bs.length : Int) ≤ (if i = 2 then 9 else i)
    · simp only [if_pos c] at h
      injection h with h
      exact ⟨h.symm, i, rfl, c.1⟩
    · simp only [if_neg c] at h
      cases h
theorem least_cases {z : Str} {i : Int} (h : least z = some i) : z = "yes" ∨ z = "no" ∨ z = "keep" ∨ z = "not" ∨ z = "both" ∨ z = "either" ∨ z = "unlike" ∨ z = "pick" ∨ z = "most" := by
  unfold least at h
  repeat' split at h
  all_goals first | (cases h; done) | (simp only [*, true_or, or_true])
theorem all_count (bs : List Bool) : (bs.all id) = decide ((bs.filter id).length = bs.length) := by
  induction bs with
  | nil => rfl
  | cons b r ih =>
    have hle := List.length_filter_le id r
    cases b
    · rw [List.all_cons]
      simp
      omega
    · rw [List.all_cons, ih]
      simp
theorem any_count (bs : List Bool) : (bs.any id) = decide (0 < (bs.filter id).length) := by
  induction bs with
  | nil => rfl
  | cons b r ih =>
    cases b
    · rw [List.any_cons, ih]; simp
    · rw [List.any_cons]; simp

def kinds9 : List Str := ["yes", "no", "keep", "not", "both", "either", "unlike", "pick", "most"]
def lo9 : List Int := [0, 0, 1, 1, 2, 2, 2, 3, 3]
theorem wants_le {z : Str} {lo hi : Int} (h : wantsM z = .ok (lo, hi)) : 0 ≤ lo ∧ lo ≤ 3 ∧ hi ≤ 9 := by
  unfold wantsM at h
  cases e : least z with
  | none => rw [e] at h; cases h
  | some i =>
    rw [e] at h
    injection h with h
    injection h with h1 h2
    have : i = 0 ∨ i = 1 ∨ i = 2 ∨ i = 3 := by
      unfold least at e
      repeat' split at e
      all_goals first | (cases e; done) | (cases e; omega)
    subst h1 h2
    rcases this with rfl | rfl | rfl | rfl <;> decide
/-- a cell of the script -/
def cell (ns : List Int) (k : Int) : Int := ns.getD k.toNat 0

/-! ### plans, plain -/
structure Gate where
  kind : Str
  srcs : List Int
  delay : Int
structure Plan where
  many : Int
  gates : List Gate
def Plan.lines (p : Plan) : Int := p.many + p.gates.length
/-! what checked refuses -/
def errGate (g : Gate) (lines : Int) : Option Err := match wantsM g.kind with
  | .error e => some e
  | .ok b => if ¬ (b.1 ≤ g.srcs.length ∧ (g.srcs.length : Int) ≤ b.2) then some .sources
    else if (g.srcs.any fun s => !(decide (0 ≤ s) && decide (s < lines))) = true then some .line
    else if ¬ (1 ≤ g.delay ∧ g.delay ≤ 60) then some .delay else none
def errGates (lines : Int) : List Gate → Option Err
  | [] => none
  | g :: r => match errGate g lines with
    | some e => some e
    | none => errGates lines r
def errPlan (p : Plan) : Option Err := if ¬ (0 ≤ p.many ∧ p.many ≤ 60) ∨ 200 < p.gates.length then some .size else errGates p.lines p.gates
def orErr {α : Type} (o : Option Err) (a : α) : Except Err α := match o with
  | some e => .error e
  | none => .ok a
def checkedM (p : Plan) : Except Err Int := orErr (errPlan p) p.lines
theorem errGates_none {lines : Int} : ∀ {gs : List Gate}, errGates lines gs = none → ∀ g ∈ gs, errGate g lines = none
  | [], _, _, h => by cases h
  | g :: r, h, x, hx => by
    rw [errGates] at h
    cases e : errGate g lines with
    | some y => rw [e] at h; cases h
    | none =>
      rw [e] at h
      rcases List.mem_cons.mp hx with rfl | hx
      · exact e
      · exact errGates_none h x hx
theorem errGates_of {lines : Int} : ∀ {gs : List Gate}, (∀ g ∈ gs, errGate g lines = none) → errGates lines gs = none
  | [], _ => rfl
  | g :: r, h => by
    rw [errGates, h g List.mem_cons_self]
    exact errGates_of fun x hx => h x (List.mem_cons_of_mem _ hx)
/-- a right gate -/
theorem gate_ok {g : Gate} {lines : Int} (h : errGate g lines = none) : (∃ lo hi, wantsM g.kind = .ok (lo, hi) ∧ lo ≤ g.srcs.length ∧ (g.srcs.length : Int) ≤ hi) ∧ (∀ s ∈ g.srcs, 0 ≤ s ∧ s < lines) ∧ 1 ≤ g.delay ∧ g.delay ≤ 60 := by
  unfold errGate at h
  cases e : wantsM g.kind with
  | error x => rw [e] at h; cases h
  | ok b =>
    rw [e] at h
    have h : (if ¬ (b.1 ≤ g.srcs.length ∧ (g.srcs.length : Int) ≤ b.2) then some Err.sources else if (g.srcs.any fun s => !(decide (0 ≤ s) && decide (s < lines))) = true then some Err.line else if ¬ (1 ≤ g.delay ∧ g.delay ≤ 60) then some Err.delay else none) = none := h
    split at h
    · cases h
    · rename_i c1
      split at h
      · cases h
      · rename_i c2
        split at h
        · cases h
        · rename_i c3
          refine ⟨⟨b.1, b.2, rfl, Decidable.not_not.mp c1⟩, fun s hs => ?_, Decidable.not_not.mp c3⟩
          have c4 := List.any_eq_false.mp (by simpa using c2 : (g.srcs.any fun s => !(decide (0 ≤ s) && decide (s < lines))) = false) s hs
          simp at c4
          exact ⟨c4.1, c4.2⟩
theorem gate_err {g : Gate} {lines lo hi : Int} (h1 : wantsM g.kind = .ok (lo, hi)) (h2 : lo ≤ g.srcs.length ∧ (g.srcs.length : Int) ≤ hi) (h3 : ∀ s ∈ g.srcs, 0 ≤ s ∧ s < lines) (h4 : 1 ≤ g.delay ∧ g.delay ≤ 60) : errGate g lines = none := by
  unfold errGate
  rw [h1]
  have c2 : (g.srcs.any fun s => !(decide (0 ≤ s) && decide (s < lines))) = false := by
    rw [List.any_eq_false]
    intro s hs
    have := h3 s hs
    simp [this.1, this.2]
  show (if ¬ (lo ≤ g.srcs.length ∧ (g.srcs.length : Int) ≤ hi) then some Err.sources else if (g.srcs.any fun s => !(decide (0 ≤ s) && decide (s < lines))) = true then some Err.line else if ¬ (1 ≤ g.delay ∧ g.delay ≤ 60) then some Err.delay else none) = none
  rw [if_neg (fun h => h h2), c2, if_neg (by decide), if_neg (fun h => h h4)]
/-- a right plan -/
structure Valid (p : Plan) : Prop where
  m0 : 0 ≤ p.many
  m60 : p.many ≤ 60
  n200 : p.gates.length ≤ 200
  gate : ∀ g ∈ p.gates, errGate g p.lines = none
theorem valid_iff {p : Plan} : errPlan p = none ↔ Valid p := by
  unfold errPlan
  by_cases c : ¬ (0 ≤ p.many ∧ p.many ≤ 60) ∨ 200 < p.gates.length
  · rw [if_pos c]
    refine ⟨fun h => (by cases h), fun v => ?_⟩
    rcases c with c | c
    · exact absurd ⟨v.m0, v.m60⟩ c
    · exact absurd v.n200 (by omega)
  · rw [if_neg c]
    have c1 : 0 ≤ p.many ∧ p.many ≤ 60 := by
      by_cases h : 0 ≤ p.many ∧ p.many ≤ 60
      · exact h
      · exact absurd (Or.inl h) c
    have c2 : p.gates.length ≤ 200 := by
      by_cases h : 200 < p.gates.length
      · exact absurd (Or.inr h) c
      · omega
    exact ⟨fun h => ⟨c1.1, c1.2, c2, errGates_none h⟩, fun v => errGates_of v.gate⟩
/-! ### the order: gone through -/
def okSrcs (d : List Bool) (ss : List Int) : Bool := (ss.map fun s => d.getD s.toNat false).all id
/-- the least place from k on whose gate can be done -/
def readyAt (many : Int) (d : List Bool) : List Gate → Int → Option Int
  | [], _ => none
  | g :: r, k => if d.getD (many + k).toNat false = false ∧ okSrcs d g.srcs = true then some (many + k) else readyAt many d r (k + 1)
def readyM (p : Plan) (d : List Bool) : Option Int := readyAt p.many d p.gates 0
def goM (p : Plan) : Nat → List Int → List Bool → List Int × List Bool
  | 0, f, d => (f, d)
  | n + 1, f, d => match readyM p d with
    | none => (f, d)
    | some l => goM p n (f ++ [l]) (d.set l.toNat true)
def done0 (p : Plan) : List Bool := (List.range p.lines.toNat).map fun i : Nat => decide ((i : Int) < p.many)
def goneM (p : Plan) : List Int × List Bool := goM p (p.gates.length + 1) [] (done0 p)
def orderM (p : Plan) : Except Err (List Int) := match errPlan p with
  | some e => .error e
  | none => if (goneM p).1.length < p.gates.length then .error .ringed else .ok (goneM p).1
theorem errGates_first {lines : Int} {e : Err} : ∀ {gs : List Gate} {i : Nat} {g : Gate}, (∀ k g, k < i → gs[k]? = some g → errGate g lines = none) → gs[i]? = some g → errGate g lines = some e → errGates lines gs = some e
  | [], i, _, _, h, _ => by simp at h
  | x :: r, 0, g, _, h, he => by
    simp at h; subst h
    rw [errGates, he]
  | x :: r, i + 1, g, hk, h, he => by
    rw [errGates, hk 0 x (by omega) rfl]
    exact errGates_first (i := i) (fun k g hk' hg => hk (k + 1) g (by omega) (by simpa using hg)) (by simpa using h) he
theorem errGates_all {lines : Int} {gs : List Gate} (h : ∀ (k : Nat) g, gs[k]? = some g → errGate g lines = none) : errGates lines gs = none := errGates_of fun g hg => by
  obtain ⟨k, hk1, hk2⟩ := List.getElem_of_mem hg
  exact h k g (by rw [List.getElem?_eq_getElem hk1, hk2])

/-! ### how data stands in the heap -/
/-- values that stand for data, one by one -/
def Rows {α : Type} (R : V → α → Prop) (vs : List V) (as : List α) : Prop := vs.length = as.length ∧ ∀ (i : Nat) v a, vs[i]? = some v → as[i]? = some a → R v a
section
variable {α : Type} {R R' : V → α → Prop} {vs ws : List V} {as bs : List α} {v : V} {a : α}
theorem rows_nil : Rows R [] [] := ⟨rfl, fun i v a h => by simp at h⟩
theorem rows_imp (h : Rows R vs as) (f : ∀ v a, R v a → R' v a) : Rows R' vs as := ⟨h.1, fun i v a h1 h2 => f v a (h.2 i v a h1 h2)⟩
theorem rows_snoc (h : Rows R vs as) (r : R v a) : Rows R (vs ++ [v]) (as ++ [a]) := by
  refine ⟨by simp [h.1], fun i x y h1 h2 => ?_⟩
  by_cases c : i < vs.length
  · rw [List.getElem?_append_left c] at h1
    rw [List.getElem?_append_left (by rw [← h.1]; exact c)] at h2
    exact h.2 i x y h1 h2
  · have c' : vs.length ≤ i := by omega
    rw [List.getElem?_append_right c'] at h1
    rw [List.getElem?_append_right (by rw [← h.1]; exact c')] at h2
    rw [h.1] at h1
    have e1 : i - as.length = 0 := by
      have := (List.getElem?_eq_some_iff.mp h1).1
      simp at this
      exact this
    rw [e1] at h1 h2
    simp at h1 h2
    subst h1 h2
    exact r
theorem rows_append (h : Rows R vs as) (h' : Rows R ws bs) : Rows R (vs ++ ws) (as ++ bs) := by
  refine ⟨by simp [h.1, h'.1], fun i x y h1 h2 => ?_⟩
  by_cases c : i < vs.length
  · rw [List.getElem?_append_left c] at h1
    rw [List.getElem?_append_left (by rw [← h.1]; exact c)] at h2
    exact h.2 i x y h1 h2
  · have c' : vs.length ≤ i := by omega
    rw [List.getElem?_append_right c'] at h1
    rw [List.getElem?_append_right (by rw [← h.1]; exact c'), ← h.1] at h2
    exact h'.2 _ x y h1 h2
theorem rows_set (h : Rows R vs as) (i : Nat) (r : R v a) : Rows R (vs.set i v) (as.set i a) := by
  refine ⟨by simp [h.1], fun k x y h1 h2 => ?_⟩
  rw [List.getElem?_set] at h1 h2
  by_cases c : i = k
  · subst c
    simp only [if_true] at h1 h2
    rw [← h.1] at h2
    split at h1
    · rename_i hl
      rw [if_pos hl] at h2
      cases h1; cases h2
      exact r
    · cases h1
  · rw [if_neg c] at h1 h2
    exact h.2 k x y h1 h2
theorem rows_get (h : Rows R vs as) {i : Nat} (ha : as[i]? = some a) : ∃ v, vs[i]? = some v ∧ R v a := by
  have hl : i < vs.length := by rw [h.1]; exact (List.getElem?_eq_some_iff.mp ha).1
  exact ⟨vs[i], List.getElem?_eq_getElem hl, h.2 i _ _ (List.getElem?_eq_getElem hl) ha⟩
theorem rows_get' (h : Rows R vs as) {i : Nat} (hv : vs[i]? = some v) : ∃ a, as[i]? = some a ∧ R v a := by
  have hl : i < as.length := by rw [← h.1]; exact (List.getElem?_eq_some_iff.mp hv).1
  exact ⟨as[i], List.getElem?_eq_getElem hl, h.2 i _ _ hv (List.getElem?_eq_getElem hl)⟩
end
/-- a gate, a plan -/
def GateAt (K : PySem.W.Frag) (H : Hp) (v : V) (g : Gate) : Prop := ∃ a s, v = .ref a ∧ SqT K H a [.str g.kind, .ref s, .int g.delay] ∧ SqT K H s (g.srcs.map V.int)
def GatesAt (K : PySem.W.Frag) (H : Hp) (a : Addr) (gs : List Gate) : Prop := ∃ vs, SqL K H a vs ∧ Rows (GateAt K H) vs gs
def PlanAt (K : PySem.W.Frag) (H : Hp) (v : V) (p : Plan) : Prop := ∃ a g, v = .ref a ∧ SqT K H a [.int p.many, .ref g] ∧ GatesAt K H g p.gates
section
variable {K : PySem.W.Frag} {H H' : Hp} {v : V} {g : Gate} {gs : List Gate} {p : Plan} {a : Addr}
theorem GateAt.mono (e : Ex H H') (h : GateAt K H v g) : GateAt K H' v g := by
  obtain ⟨a, s, rfl, h1, h2⟩ := h
  exact ⟨a, s, rfl, ex_t e h1, ex_t e h2⟩
theorem GatesAt.mono (e : Ex H H') (h : GatesAt K H a gs) : GatesAt K H' a gs := by
  obtain ⟨vs, h1, h2⟩ := h
  exact ⟨vs, ex_l e h1, rows_imp h2 fun _ _ r => r.mono e⟩
theorem PlanAt.mono (e : Ex H H') (h : PlanAt K H v p) : PlanAt K H' v p := by
  obtain ⟨a, g, rfl, h1, h2⟩ := h
  exact ⟨a, g, rfl, ex_t e h1, h2.mono e⟩
/-- a tuple stays when a list changes -/
theorem sqT_put {xs : List V} {l : Addr} {ys : List V} {o : HO} (hl : H l = some (.lst ys)) (h : SqT K H a xs) : SqT K (upd H l o) a xs := by
  rcases h with h | h
  · refine .inl ?_
    rcases h with h | ⟨ob, h⟩
    · refine .inl ?_
      rw [upd_ne]
      · exact h
      · exact ne_of h hl (by intro z; cases z)
    · refine .inr ⟨ob, ?_⟩
      rw [upd_ne]
      · exact h
      · exact ne_of h hl (by intro z; cases z)
  · exact .inr h
theorem GateAt.put {l : Addr} {ys : List V} {o : HO} (hl : H l = some (.lst ys)) (h : GateAt K H v g) : GateAt K (upd H l o) v g := by
  obtain ⟨a, s, rfl, h1, h2⟩ := h
  exact ⟨a, s, rfl, sqT_put hl h1, sqT_put hl h2⟩
end
/-- as data, for == -/
def gateD (g : Gate) : PyData := .tuple [.str g.kind, .tuple (g.srcs.map .int), .int g.delay]
def planD (p : Plan) : PyData := .tuple [.int p.many, .list (p.gates.map gateD)]
theorem GateAt.dp {K : PySem.W.Frag} {H : Hp} {v : V} {g : Gate} (h : GateAt K H v g) : Dp K H v (gateD g) := by
  obtain ⟨a, s, rfl, h1, h2⟩ := h
  exact .tup h1 (.cons (.str _) (.cons (.tup h2 (dpAll_map _ _ g.srcs fun b _ => .int b)) (.cons (.int _) .nil)))
theorem dpAll_rows {K : PySem.W.Frag} {H : Hp} {α : Type} {R : V → α → Prop} (f : α → PyData) (hf : ∀ v a, R v a → Dp K H v (f a)) : ∀ {vs : List V} {as : List α}, Rows R vs as → DpAll K H vs (as.map f)
  | [], [], _ => .nil
  | [], _ :: _, h => by have := h.1; simp at this
  | _ :: _, [], h => by have := h.1; simp at this
  | v :: vs, a :: as, h => .cons (hf v a (h.2 0 v a rfl rfl)) (dpAll_rows f hf ⟨by have := h.1; simpa using this, fun i x y h1 h2 => h.2 (i + 1) x y (by simpa using h1) (by simpa using h2)⟩)
theorem PlanAt.dp {K : PySem.W.Frag} {H : Hp} {v : V} {p : Plan} (h : PlanAt K H v p) : Dp K H v (planD p) := by
  obtain ⟨a, g, rfl, h1, vs, h2, h3⟩ := h
  exact .tup h1 (.cons (.int _) (.cons (.lst h2 (dpAll_rows gateD (fun _ _ r => r.dp) h3)) .nil))
theorem gateD_lay {g : Gate} (h : PyData.strOk g.kind = true) : (gateD g).canLay0 = true := by
  unfold gateD
  rw [PyData.canLay0, PyData.canLayAll0, PyData.canLay0, h, PyData.canLayAll0, PyData.canLay0, canLayAll_map _ _ fun _ _ => by simp [PyData.canLay0], PyData.canLayAll0, PyData.canLay0, PyData.canLayAll0]; rfl
theorem gateD_deep (g : Gate) : (gateD g).depth ≤ 3 := by
  unfold gateD
  have := depthAll_map PyData.int 0 g.srcs fun _ _ => by simp [PyData.depth]
  simp only [PyData.depth, PyData.depthAll]
  omega
theorem planD_shaped {p : Plan} (h : ∀ g ∈ p.gates, PyData.strOk g.kind = true) : SeqAt.shaped (planD p) = true := by
  unfold SeqAt.shaped planD
  have := depthAll_map gateD 3 p.gates fun g _ => gateD_deep g
  rw [PyData.canLay0, PyData.canLayAll0, PyData.canLay0, PyData.canLayAll0, PyData.canLay0, canLayAll_map _ _ fun g hg => gateD_lay (h g hg), PyData.canLayAll0]
  simp only [PyData.depth, PyData.depthAll]
  simp
  omega
/-- (kind, sources, delay), the sources a tuple made on the way -/
theorem ep_gate {K : PySem.W.Frag} {σ : L2.St} {G : Hp} {tk tss td : TE} {z : Str} {ss : List Int} {d : Int} (h1 : Ev tk σ G (.str z)) (h2 : EvU tss σ G (ss.map V.int)) (h3 : Ev td σ G (.int d)) :
    EvP (tTup (tCons tk (tCons tss (tCons td tNil)))) σ G fun v G' => GateAt K G' v ⟨z, ss, d⟩ := fun H e Q q =>
  h1 H e _ fun H1 e1 => h2 H1 (e.trans e1) _ fun p H2 hp e2 hp2 => h3 H2 ((e.trans e1).trans e2) _ fun H3 e3 =>
    ⟨sz_of (by show 3 ≤ 100000; decide), fun a ha => q _ (upd H3 a (.tup [.str z, .ref p, .int d])) _ ((((e.trans e1).trans e2).trans e3).trans (Ex.new ha)) (Ex.refl _) (((e1.trans e2).trans e3).trans (Ex.new ha))
      ⟨a, p, rfl, st_of upd_same, ex_t (Ex.new ha) (st_of (e3 _ _ hp2))⟩⟩
/-- .. the sources a tuple that stands -/
theorem ep_gateR {K : PySem.W.Frag} {σ : L2.St} {G : Hp} {tk tss td : TE} {z : Str} {ss : List Int} {d : Int} {s : Addr} (h1 : Ev tk σ G (.str z)) (h2 : Ev tss σ G (.ref s)) (hs : SqT K G s (ss.map V.int)) (h3 : Ev td σ G (.int d)) :
    EvP (tTup (tCons tk (tCons tss (tCons td tNil)))) σ G fun v G' => GateAt K G' v ⟨z, ss, d⟩ := fun H e Q q =>
  h1 H e _ fun H1 e1 => h2 H1 (e.trans e1) _ fun H2 e2 => h3 H2 ((e.trans e1).trans e2) _ fun H3 e3 =>
    ⟨sz_of (by show 3 ≤ 100000; decide), fun a ha => q _ (upd H3 a (.tup [.str z, .ref s, .int d])) _ ((((e.trans e1).trans e2).trans e3).trans (Ex.new ha)) (Ex.refl _) (((e1.trans e2).trans e3).trans (Ex.new ha))
      ⟨a, s, rfl, st_of upd_same, ex_t ((((e.trans e1).trans e2).trans e3).trans (Ex.new ha)) hs⟩⟩
theorem gates_put {K : PySem.W.Frag} {G G' : Hp} {vs ys : List V} {gs : List Gate} {l : Addr} {o : HO} (h : Rows (GateAt K G) vs gs) (e : Ex G G') (hl : G' l = some (.lst ys)) : Rows (GateAt K (upd G' l o)) vs gs := rows_imp h fun _ _ r => (r.mono e).put hl
/-- (many, gates), the list made on the way -/
theorem ep_plan {K : PySem.W.Frag} {σ : L2.St} {G : Hp} {ta tb : TE} {vs : List V} {p : Plan} (h1 : Ev ta σ G (.int p.many)) (h2 : EvL tb σ G vs) (hR : Rows (GateAt K G) vs p.gates) :
    EvP (tTup (tCons ta (tCons tb tNil))) σ G fun v G' => PlanAt K G' v p := fun H e Q q =>
  h1 H e _ fun H1 e1 => h2 H1 (e.trans e1) _ fun g H2 hg e2 hl =>
    ⟨sz_of (by show 2 ≤ 100000; decide), fun a ha => q _ (upd H2 a (.tup [.int p.many, .ref g])) _ (((e.trans e1).trans e2).trans (Ex.new ha)) (Ex.refl _) ((e1.trans e2).trans (Ex.new ha))
      ⟨a, g, rfl, st_of upd_same, vs, ex_l (Ex.new ha) (sq_of hl), rows_imp hR fun _ _ r => r.mono (((e.trans e1).trans e2).trans (Ex.new ha))⟩⟩

/-! ### the order's mathematics -/
def cntF (d : List Bool) : Nat := (d.filter fun b => !b).length
theorem readyAt_some {many l : Int} {d : List Bool} : ∀ {gs : List Gate} {k : Int}, readyAt many d gs k = some l → ∃ (i : Nat) (g : Gate), gs[i]? = some g ∧ l = many + (k + i) ∧ d.getD l.toNat false = false ∧ okSrcs d g.srcs = true
  | [], _, h => by cases h
  | g :: r, k, h => by
    rw [readyAt] at h
    split at h
    · rename_i c
      have e : many + k = l := Option.some.inj h
      exact ⟨0, g, rfl, by omega, by rw [← e]; exact c.1, c.2⟩
    · obtain ⟨i, g', h1, h2, h3, h4⟩ := readyAt_some h
      exact ⟨i + 1, g', by simpa using h1, by rw [h2]; omega, h3, h4⟩
theorem readyAt_none {many : Int} {d : List Bool} : ∀ {gs : List Gate} {k : Int}, readyAt many d gs k = none → ∀ (i : Nat) (g : Gate), gs[i]? = some g → d.getD (many + (k + i)).toNat false = true ∨ okSrcs d g.srcs = false
  | [], _, _, i, g, hg => by simp at hg
  | x :: r, k, h, i, g, hg => by
    rw [readyAt] at h
    split at h
    · cases h
    · rename_i c
      cases i with
      | zero =>
        simp at hg; subst hg
        have e : (many + (k + ((0 : Nat) : Int))) = many + k := by omega
        rw [e]
        cases h1 : d.getD (many + k).toNat false
        · cases h2 : okSrcs d x.srcs
          · exact .inr rfl
          · exact absurd ⟨h1, h2⟩ c
        · exact .inl rfl
      | succ i =>
        have := readyAt_none h i g (by simpa using hg)
        have e : (many + (k + 1 + (i : Int))) = many + (k + ((i + 1 : Nat) : Int)) := by omega
        rw [e] at this
        exact this
theorem ready_some {p : Plan} {d : List Bool} {l : Int} (h : readyM p d = some l) : ∃ (i : Nat) (g : Gate), p.gates[i]? = some g ∧ l = p.many + i ∧ d.getD l.toNat false = false ∧ okSrcs d g.srcs = true := by
  obtain ⟨i, g, h1, h2, h3⟩ := readyAt_some h
  exact ⟨i, g, h1, by omega, h3⟩
theorem ready_none {p : Plan} {d : List Bool} (h : readyM p d = none) (i : Nat) (g : Gate) (hg : p.gates[i]? = some g) : d.getD (p.many + i).toNat false = true ∨ okSrcs d g.srcs = false := by
  have := readyAt_none h i g hg
  rw [show p.many + (0 + (i : Int)) = p.many + i by omega] at this
  exact this
theorem cntF_set : ∀ {d : List Bool} {i : Nat}, i < d.length → d.getD i false = false → cntF (d.set i true) + 1 = cntF d
  | [], i, h, _ => by simp at h
  | b :: r, 0, _, h => by
    have : b = false := by simpa using h
    subst this
    simp [cntF]
  | b :: r, i + 1, h, h2 => by
    have ih := cntF_set (d := r) (i := i) (by simpa using h) (by simpa using h2)
    cases b <;> simp [cntF] at ih ⊢ <;> omega
theorem cntF_le (d : List Bool) : cntF d ≤ d.length := List.length_filter_le _ _
theorem done0_len (p : Plan) : (done0 p).length = p.lines.toNat := by unfold done0; rw [List.length_map, List.length_range]
theorem done0_get {p : Plan} {i : Nat} (h : i < p.lines.toNat) : (done0 p).getD i false = decide ((i : Int) < p.many) := by
  unfold done0
  rw [List.getD_eq_getElem?_getD, List.getElem?_map, List.getElem?_range h]
  rfl
theorem cntF_app (a b : List Bool) : cntF (a ++ b) = cntF a + cntF b := by unfold cntF; rw [List.filter_append, List.length_append]
theorem cntF_done (m : Int) (hm : 0 ≤ m) : ∀ n : Nat, cntF ((List.range (m.toNat + n)).map fun i : Nat => decide ((i : Int) < m)) = n
  | 0 => by
    unfold cntF
    rw [List.length_eq_zero_iff, List.filter_eq_nil_iff]
    intro b hb
    obtain ⟨i, hi, rfl⟩ := List.mem_map.mp hb
    have := List.mem_range.mp hi
    simp; omega
  | n + 1 => by
    rw [show m.toNat + (n + 1) = (m.toNat + n) + 1 from rfl, List.range_succ, List.map_append, cntF_app, cntF_done m hm n]
    have : ¬ (((m.toNat + n : Nat) : Int) < m) := by omega
    simp only [List.map_cons, List.map_nil, this, decide_false]
    rfl
theorem cntF_done0 {p : Plan} (h : 0 ≤ p.many) : cntF (done0 p) = p.gates.length := by
  unfold done0
  have e : p.lines.toNat = p.many.toNat + p.gates.length := by unfold Plan.lines; omega
  rw [e]
  exact cntF_done p.many h p.gates.length
/-! what goM keeps -/
/-- between two turns: what is found is what is done of the gates, each behind its sources -/
structure GoInv (p : Plan) (f : List Int) (d : List Bool) : Prop where
  len : (d.length : Int) = p.lines
  inp : ∀ i : Nat, (i : Int) < p.many → d.getD i false = true
  fnd : ∀ l : Int, l ∈ f ↔ p.many ≤ l ∧ l < p.lines ∧ d.getD l.toNat false = true
  nd : f.Nodup
  cnt : f.length + cntF d = p.gates.length
theorem goInv0 {p : Plan} (h : 0 ≤ p.many) : GoInv p [] (done0 p) := by
  have hl : 0 ≤ p.lines := by unfold Plan.lines; omega
  refine ⟨by rw [done0_len]; omega, fun i hi => ?_, fun l => ?_, List.nodup_nil, by rw [cntF_done0 h]; simp⟩
  · rw [done0_get (by unfold Plan.lines; omega)]; exact decide_eq_true hi
  · constructor
    · intro h; cases h
    · rintro ⟨h1, h2, h3⟩
      rw [done0_get (by omega)] at h3
      have := of_decide_eq_true h3
      omega
theorem getD_set {d : List Bool} {i j : Nat} {b : Bool} (h : i < d.length) : (d.set i b).getD j false = if i = j then b else d.getD j false := by
  rw [List.getD_eq_getElem?_getD, List.getElem?_set]
  by_cases c : i = j
  · subst c; simp [h]
  · simp [c, List.getD_eq_getElem?_getD]
theorem GoInv.step {p : Plan} {f : List Int} {d : List Bool} {l : Int} (v : GoInv p f d) (hm : 0 ≤ p.many) (h : readyM p d = some l) : GoInv p (f ++ [l]) (d.set l.toNat true) ∧ cntF (d.set l.toNat true) + 1 = cntF d ∧ p.many ≤ l ∧ l < p.lines := by
  obtain ⟨i, g, hg, hl, hd, hs⟩ := ready_some h
  have hi : i < p.gates.length := (List.getElem?_eq_some_iff.mp hg).1
  have l0 : p.many ≤ l := by omega
  have l1 : l < p.lines := by unfold Plan.lines; omega
  have ln : l.toNat < d.length := by have := v.len; omega
  have hc := cntF_set ln hd
  have nl : l ∉ f := fun h => by
    have := ((v.fnd l).mp h).2.2
    rw [hd] at this; cases this
  refine ⟨⟨by rw [List.length_set]; exact v.len, fun j hj => ?_, fun x => ?_, ?_, ?_⟩, hc, l0, l1⟩
  · rw [getD_set ln]
    split
    · rfl
    · exact v.inp j hj
  · rw [getD_set ln, List.mem_append, v.fnd x, List.mem_singleton]
    constructor
    · rintro (⟨h1, h2, h3⟩ | rfl)
      · exact ⟨h1, h2, by split; rfl; exact h3⟩
      · exact ⟨l0, l1, by rw [if_pos rfl]⟩
    · rintro ⟨h1, h2, h3⟩
      by_cases c : l.toNat = x.toNat
      · right; omega
      · rw [if_neg c] at h3
        exact .inl ⟨h1, h2, h3⟩
  · rw [List.nodup_append]
    exact ⟨v.nd, by simp, fun a ha b hb => by rw [List.mem_singleton] at hb; subst hb; intro e; subst e; exact nl ha⟩
  · rw [List.length_append]
    have := v.cnt
    simp; omega
theorem goM_inv {p : Plan} (hm : 0 ≤ p.many) : ∀ (n : Nat) (f : List Int) (d : List Bool), GoInv p f d → cntF d < n → GoInv p (goM p n f d).1 (goM p n f d).2 ∧ readyM p (goM p n f d).2 = none
  | 0, _, _, _, h => absurd h (Nat.not_lt_zero _)
  | n + 1, f, d, v, h => by
    rw [goM]
    cases e : readyM p d with
    | none => exact ⟨v, e⟩
    | some l =>
      obtain ⟨v', hc, _⟩ := v.step hm e
      exact goM_inv hm n _ _ v' (by omega)
theorem gone_inv {p : Plan} (hm : 0 ≤ p.many) : GoInv p (goneM p).1 (goneM p).2 ∧ readyM p (goneM p).2 = none :=
  goM_inv hm _ _ _ (goInv0 hm) (by rw [cntF_done0 hm]; omega)
/-- each found line comes behind its sources: along goM -/
theorem okSrcs_iff {d : List Bool} {ss : List Int} : okSrcs d ss = true ↔ ∀ s ∈ ss, d.getD s.toNat false = true := by
  unfold okSrcs
  rw [List.all_eq_true]
  simp
/-! ### a plan without a ring -/
/-- a number of each line that falls from a gate to its sources -/
def Ranked (p : Plan) (rk : Int → Nat) : Prop := ∀ (i : Nat) (g : Gate), p.gates[i]? = some g → ∀ s ∈ g.srcs, rk s < rk (p.many + i)
def Free (p : Plan) : Prop := ∃ rk, Ranked p rk
theorem gone_all {p : Plan} (v : Valid p) (h : Free p) : ∀ i : Nat, i < p.gates.length → (goneM p).2.getD (p.many + i).toNat false = true := by
  obtain ⟨rk, hr⟩ := h
  obtain ⟨gi, hn⟩ := gone_inv v.m0
  have main : ∀ n (i : Nat), i < p.gates.length → rk (p.many + i) < n → (goneM p).2.getD (p.many + i).toNat false = true := by
    intro n
    induction n with
    | zero => intro i _ h; omega
    | succ n ih =>
      intro i hi hrk
      have hg : p.gates[i]? = some p.gates[i] := List.getElem?_eq_getElem hi
      rcases ready_none hn i _ hg with h | h
      · exact h
      · exfalso
        have h2 : okSrcs (goneM p).2 p.gates[i].srcs = true := okSrcs_iff.mpr fun s hs => by
          obtain ⟨_, hsr, _⟩ := gate_ok (v.gate _ (List.getElem_mem hi))
          obtain ⟨s0, s1⟩ := hsr s hs
          by_cases c : s < p.many
          · exact gi.inp s.toNat (by omega)
          · have e : s = p.many + ((s - p.many).toNat : Int) := by omega
            have hj : (s - p.many).toNat < p.gates.length := by unfold Plan.lines at s1; omega
            have hrs := hr i _ hg s hs
            rw [e]
            exact ih _ hj (by rw [← e]; omega)
        rw [h] at h2; cases h2
  intro i hi
  exact main _ i hi (Nat.lt_succ_self _)
theorem cntF_zero : ∀ {d : List Bool}, (∀ i, i < d.length → d.getD i false = true) → cntF d = 0
  | [], _ => rfl
  | b :: r, h => by
    have h0 : b = true := by simpa using h 0 (by simp)
    have ih := cntF_zero (d := r) fun i hi => by simpa using h (i + 1) (by simpa using hi)
    subst h0
    simpa [cntF] using ih
theorem gone_full {p : Plan} (v : Valid p) (h : Free p) : (goneM p).1.length = p.gates.length := by
  obtain ⟨gi, _⟩ := gone_inv v.m0
  have := gi.cnt
  have z : cntF (goneM p).2 = 0 := cntF_zero fun i hi => by
    by_cases c : (i : Int) < p.many
    · exact gi.inp i c
    · have hl := gi.len
      have m0 := v.m0
      have := gone_all v h (i - p.many.toNat) (by unfold Plan.lines at hl; omega)
      rw [show (p.many + ((i - p.many.toNat : Nat) : Int)).toNat = i by omega] at this
      exact this
  omega
theorem order_free {p : Plan} (v : Valid p) (h : Free p) : orderM p = .ok (goneM p).1 := by
  unfold orderM
  rw [valid_iff.mpr v]
  show (if (goneM p).1.length < p.gates.length then Except.error Err.ringed else .ok (goneM p).1) = _
  rw [if_neg (by rw [gone_full v h]; omega)]
/-! step by step -/
def doneBy (d : List Bool) (ls : List Int) : List Bool := ls.foldl (fun d l => d.set l.toNat true) d
theorem doneBy_snoc (d : List Bool) (ls : List Int) (l : Int) : doneBy d (ls ++ [l]) = (doneBy d ls).set l.toNat true := by
  unfold doneBy; rw [List.foldl_append]; rfl
theorem doneBy_len (d : List Bool) : ∀ ls : List Int, (doneBy d ls).length = d.length := fun ls => by
  induction ls generalizing d with
  | nil => rfl
  | cons l r ih => exact (ih _).trans List.length_set
theorem goM_steps {p : Plan} : ∀ (n : Nat) (f : List Int) (d : List Bool), ∃ rest, (goM p n f d).1 = f ++ rest ∧ ∀ (i : Nat) (l : Int), rest[i]? = some l → readyM p (doneBy d (rest.take i)) = some l
  | 0, f, d => ⟨[], by rw [goM, List.append_nil], fun i l h => by simp at h⟩
  | n + 1, f, d => by
    rw [goM]
    cases e : readyM p d with
    | none => exact ⟨[], by rw [List.append_nil], fun i l h => by simp at h⟩
    | some l =>
      obtain ⟨rest, h1, h2⟩ := goM_steps (p := p) n (f ++ [l]) (d.set l.toNat true)
      refine ⟨l :: rest, by show (goM p n _ _).1 = _; rw [h1, List.append_assoc]; rfl, fun i x hx => ?_⟩
      cases i with
      | zero =>
        have : l = x := by simpa using hx
        subst this
        exact e
      | succ i => exact h2 i x (by simpa using hx)
theorem gone_steps (p : Plan) (i : Nat) (l : Int) (h : (goneM p).1[i]? = some l) : readyM p (doneBy (done0 p) ((goneM p).1.take i)) = some l := by
  obtain ⟨rest, h1, h2⟩ := goM_steps (p := p) (p.gates.length + 1) [] (done0 p)
  have e : (goneM p).1 = rest := h1
  rw [e] at h ⊢
  exact h2 i l h

/-! ### how the laws make gates -/
def some11 : List Int := [99991, 99989, 99971, 99961, 99929, 99923, 99907, 99901, 99881, 99877, 99871]
def mixed (c k m : Int) : Int := (c + 7 * k) * 48271 % some11.getD (k % 11).toNat 0 % m
theorem some11_pos {k : Int} (h0 : 0 ≤ k) (h1 : k < 11) : 0 < some11.getD k.toNat 0 := by
  have h : k = 0 ∨ k = 1 ∨ k = 2 ∨ k = 3 ∨ k = 4 ∨ k = 5 ∨ k = 6 ∨ k = 7 ∨ k = 8 ∨ k = 9 ∨ k = 10 := by omega
  rcases h with rfl | rfl | rfl | rfl | rfl | rfl | rfl | rfl | rfl | rfl | rfl <;> decide
theorem mixed_in {c k m : Int} (h : 0 < m) : 0 ≤ mixed c k m ∧ mixed c k m < m := ⟨Int.emod_nonneg _ (by omega), Int.emod_lt_of_pos _ h⟩
def manyOf (c : Int) : Int := if c / 6 % 8 = 1 then 50 + c / 48 % 11 else if c / 6 % 4 = 2 then 6 + c / 48 % 44 else c % 6
theorem manyOf_in (c : Int) : 0 ≤ manyOf c ∧ manyOf c ≤ 60 := by
  unfold manyOf
  split
  · omega
  · split <;> omega
def ways12 : List Int := [0, 1, 2, 3, 4, 5, 6, 7, 8, 3, 6, 7]
def cnt9 : List Int := [2, 2, 3, 4, 5, 6, 7, 8, 9]
def wayOf (c below : Int) : Int := if below = 0 then c % 2 else ways12.getD (c % 12).toNat 0
def cntOf (c way : Int) : Int := if lo9.getD way.toNat 0 = 2 then cnt9.getD (mixed c 9 9).toNat 0 else lo9.getD way.toNat 0
def srcsOf (c below n : Int) : List Int :=
  let ss := (List.range n.toNat).map fun k : Nat => mixed (c / 12) k below
  if 0 < n ∧ c / 12 % 2 = 1 then ss.set 0 (below - 1) else ss
def gateBy (c below most : Int) : Gate := ⟨kinds9.getD (wayOf c below).toNat "", srcsOf c below (cntOf c (wayOf c below)), 1 + mixed c 10 most⟩
theorem ways12_in {k : Int} (h0 : 0 ≤ k) (h1 : k < 12) : 0 ≤ ways12.getD k.toNat 0 ∧ ways12.getD k.toNat 0 < 9 := by
  have h : k = 0 ∨ k = 1 ∨ k = 2 ∨ k = 3 ∨ k = 4 ∨ k = 5 ∨ k = 6 ∨ k = 7 ∨ k = 8 ∨ k = 9 ∨ k = 10 ∨ k = 11 := by omega
  rcases h with rfl | rfl | rfl | rfl | rfl | rfl | rfl | rfl | rfl | rfl | rfl | rfl <;> decide
theorem cnt9_in {k : Int} (h0 : 0 ≤ k) (h1 : k < 9) : 2 ≤ cnt9.getD k.toNat 0 ∧ cnt9.getD k.toNat 0 ≤ 9 := by
  have h : k = 0 ∨ k = 1 ∨ k = 2 ∨ k = 3 ∨ k = 4 ∨ k = 5 ∨ k = 6 ∨ k = 7 ∨ k = 8 := by omega
  rcases h with rfl | rfl | rfl | rfl | rfl | rfl | rfl | rfl | rfl <;> decide
theorem lo9_in' {k : Int} (h0 : 0 ≤ k) (h1 : k < 9) : 0 ≤ lo9.getD k.toNat 0 ∧ lo9.getD k.toNat 0 ≤ 3 ∧ (k < 2 → lo9.getD k.toNat 0 = 0) ∧ wantsM (kinds9.getD k.toNat "") = .ok (lo9.getD k.toNat 0, if lo9.getD k.toNat 0 = 2 then 9 else lo9.getD k.toNat 0) := by
  have h : k = 0 ∨ k = 1 ∨ k = 2 ∨ k = 3 ∨ k = 4 ∨ k = 5 ∨ k = 6 ∨ k = 7 ∨ k = 8 := by omega
  rcases h with rfl | rfl | rfl | rfl | rfl | rfl | rfl | rfl | rfl <;> exact ⟨by decide, by decide, by decide, rfl⟩
theorem wayOf_in (c : Int) {below : Int} : 0 ≤ wayOf c below ∧ wayOf c below < 9 ∧ (below = 0 → wayOf c below < 2) := by
  unfold wayOf
  split
  · omega
  · have := ways12_in (k := c % 12) (by omega) (by omega)
    exact ⟨this.1, this.2, fun h => by omega⟩
theorem cntOf_in (c : Int) {way : Int} (h0 : 0 ≤ way) (h1 : way < 9) : 0 ≤ cntOf c way ∧ cntOf c way ≤ 9 ∧ (way < 2 → cntOf c way = 0) ∧ (cntOf c way = lo9.getD way.toNat 0 ∨ (lo9.getD way.toNat 0 = 2 ∧ 2 ≤ cntOf c way)) := by
  have h2 := lo9_in' h0 h1
  have h3 := mixed_in (c := c) (k := 9) (m := 9) (by decide)
  have h4 := cnt9_in h3.1 h3.2
  unfold cntOf
  split
  · rename_i h
    refine ⟨by omega, by omega, fun hw => ?_, .inr ⟨h, by omega⟩⟩
    have := h2.2.2.1 hw; omega
  · exact ⟨h2.1, by omega, h2.2.2.1, .inl rfl⟩
theorem srcsOf_len (c below : Int) {n : Int} (h : 0 ≤ n) : ((srcsOf c below n).length : Int) = n := by
  unfold srcsOf
  simp only
  split <;> simp <;> omega
theorem srcsOf_in {c below n s : Int} (hb : 0 < below) (h : s ∈ srcsOf c below n) : 0 ≤ s ∧ s < below := by
  unfold srcsOf at h
  simp only at h
  have base : ∀ x, x ∈ (List.range n.toNat).map (fun k : Nat => mixed (c / 12) k below) → 0 ≤ x ∧ x < below := fun x hx => by
    obtain ⟨k, _, rfl⟩ := List.mem_map.mp hx
    exact mixed_in hb
  split at h
  · rcases List.mem_or_eq_of_mem_set h with h | rfl
    · exact base s h
    · omega
  · exact base s h
theorem kinds9_ok {k : Int} (h0 : 0 ≤ k) (h1 : k < 9) : PyData.strOk (kinds9.getD k.toNat "") = true := by
  have h : k = 0 ∨ k = 1 ∨ k = 2 ∨ k = 3 ∨ k = 4 ∨ k = 5 ∨ k = 6 ∨ k = 7 ∨ k = 8 := by omega
  rcases h with rfl | rfl | rfl | rfl | rfl | rfl | rfl | rfl | rfl <;> decide +kernel
/-- a drawn gate is right, its sources below -/
theorem gateBy_ok {c below most lines : Int} (hb : 0 ≤ below) (hl : below ≤ lines) (hm : 0 < most) (hm2 : most ≤ 60) : errGate (gateBy c below most) lines = none ∧ (∀ s ∈ (gateBy c below most).srcs, 0 ≤ s ∧ s < below) ∧ PyData.strOk (gateBy c below most).kind = true := by
  obtain ⟨w0, w1, w2⟩ := wayOf_in c (below := below)
  obtain ⟨c0, c1, c2, c3⟩ := cntOf_in c w0 w1
  obtain ⟨_, _, _, hw⟩ := lo9_in' w0 w1
  have hlen := srcsOf_len c below c0
  have hs : ∀ s ∈ (gateBy c below most).srcs, 0 ≤ s ∧ s < below := fun s h => by
    by_cases z : below = 0
    · have e : cntOf c (wayOf c below) = 0 := c2 (w2 z)
      have : (srcsOf c below (cntOf c (wayOf c below))).length = 0 := by omega
      rw [List.length_eq_zero_iff] at this
      have h' : s ∈ srcsOf c below (cntOf c (wayOf c below)) := h
      rw [this] at h'
      cases h'
    · exact srcsOf_in (by omega) h
  refine ⟨gate_err (lo := lo9.getD (wayOf c below).toNat 0) (hi := _) hw ?_ (fun s h => ⟨(hs s h).1, by have := (hs s h).2; omega⟩) ?_, hs, kinds9_ok w0 w1⟩
  · show lo9.getD (wayOf c below).toNat 0 ≤ ((srcsOf c below (cntOf c (wayOf c below))).length : Int) ∧ ((srcsOf c below (cntOf c (wayOf c below))).length : Int) ≤ _
    rw [hlen]
    have := (lo9_in' w0 w1).2.1
    split <;> omega
  · have := mixed_in (c := c) (k := 10) hm
    show 1 ≤ 1 + mixed c 10 most ∧ 1 + mixed c 10 most ≤ 60
    omega
def placeOf (k n t : Int) : Int := ((if t % 2 = 1 then n - 1 - k else k) + t / 2) % n
/-! the laws' gates, drawn one behind the other -/
def farGate (far many most k : Int) : Gate := if far % 8 = 4 ∨ many + k = 0 then gateBy (far / 8 + 5 * k) (many + k) most else ⟨"not", [many + k - 1], 1⟩
def farGates (far many most : Int) : Nat → List Gate
  | 0 => []
  | k + 1 => farGates far many most k ++ [farGate far many most k]
def addGates (many most : Int) : List Gate → List Int → List Gate
  | gs, [] => gs
  | gs, c :: cs => addGates many most (gs ++ [gateBy c (many + gs.length) most]) cs
def isFar (ns : List Int) : Prop := cell ns 1 % 8 = 1 ∨ cell ns 1 % 8 = 4
instance (ns : List Int) : Decidable (isFar ns) := by unfold isFar; infer_instance
def startGates (ns : List Int) (many most : Int) : List Gate := if isFar ns then farGates (cell ns 1) many most (60 + cell ns 1 / 8 % 131).toNat else []
def startCells (ns : List Int) : List Int := if isFar ns then (ns.drop 3).take 10 else (ns.drop 3).take 200
def gatesBy (ns : List Int) (many most : Int) : List Gate := addGates many most (startGates ns many most) (startCells ns)
theorem farGates_len (far many most : Int) : ∀ n, (farGates far many most n).length = n
  | 0 => rfl
  | n + 1 => by rw [farGates, List.length_append, farGates_len far many most n]; rfl
theorem addGates_snoc (many most c : Int) : ∀ (cs : List Int) (gs : List Gate), addGates many most gs (cs ++ [c]) = addGates many most gs cs ++ [gateBy c (many + (addGates many most gs cs).length) most]
  | [], gs => rfl
  | x :: cs, gs => by
    rw [List.cons_append, addGates, addGates]
    exact addGates_snoc many most c cs _
theorem addGates_len (many most : Int) : ∀ (cs : List Int) (gs : List Gate), (addGates many most gs cs).length = gs.length + cs.length
  | [], gs => rfl
  | x :: cs, gs => by
    rw [addGates, addGates_len many most cs, List.length_append, List.length_cons, List.length_cons, List.length_nil]
    omega
theorem startGates_len (ns : List Int) (many most : Int) : (startGates ns many most).length ≤ 190 := by
  unfold startGates
  split
  · rw [farGates_len]; omega
  · exact Nat.zero_le _
theorem startCells_len {ns : List Int} (h : ns.length ≤ 63) : (startCells ns).length ≤ 60 ∧ (startGates ns many most).length + (startCells ns).length ≤ 200 := by
  unfold startCells startGates
  split
  · rw [farGates_len, List.length_take, List.length_drop]; omega
  · rw [List.length_take, List.length_drop]
    simp; omega
theorem gatesBy_len {ns : List Int} {many most : Int} (h : ns.length ≤ 63) : (gatesBy ns many most).length ≤ 200 := by
  unfold gatesBy
  rw [addGates_len]
  exact (startCells_len h).2
/-! the laws turn a plan about -/
def invOf (i n t : Int) : Int := if t % 2 = 1 then n - 1 - (i - t / 2) % n else (i - t / 2) % n
def moved (many n t s : Int) : Int := if many ≤ s then many + placeOf (s - many) n t else s
def turnGate (many n t : Int) (g : Gate) : Gate := ⟨g.kind, g.srcs.map (moved many n t), g.delay⟩
def gate0 : Gate := ⟨"", [], 0⟩
def turnedM (many : Int) (gs : List Gate) (t : Int) : Plan := ⟨many, (List.range gs.length).map fun i : Nat => turnGate many gs.length t (gs.getD (invOf i gs.length t).toNat gate0)⟩
theorem placeOf_in {k n t : Int} (h : 0 < n) : 0 ≤ placeOf k n t ∧ placeOf k n t < n := ⟨Int.emod_nonneg _ (by omega), Int.emod_lt_of_pos _ h⟩
theorem invOf_in {i n t : Int} (h : 0 < n) : 0 ≤ invOf i n t ∧ invOf i n t < n := by
  have h1 := Int.emod_nonneg (i - t / 2) (show n ≠ 0 by omega)
  have h2 := Int.emod_lt_of_pos (i - t / 2) h
  unfold invOf
  split <;> omega
theorem place_inv {i n t : Int} (h0 : 0 ≤ i) (h1 : i < n) : placeOf (invOf i n t) n t = i := by
  have e : (if t % 2 = 1 then n - 1 - invOf i n t else invOf i n t) = (i - t / 2) % n := by
    unfold invOf
    by_cases c : t % 2 = 1
    · simp only [if_pos c]; omega
    · simp only [if_neg c]
  unfold placeOf
  rw [e, Int.emod_add_emod, show i - t / 2 + t / 2 = i by omega]
  exact Int.emod_eq_of_lt h0 h1
theorem inv_place {k n t : Int} (h0 : 0 ≤ k) (h1 : k < n) : invOf (placeOf k n t) n t = k := by
  have e : ∀ k' : Int, 0 ≤ k' → k' < n → ((k' + t / 2) % n - t / 2) % n = k' := fun k' a b => by
    rw [Int.sub_eq_add_neg, Int.emod_add_emod, show k' + t / 2 + -(t / 2) = k' by omega]
    exact Int.emod_eq_of_lt a b
  unfold invOf placeOf
  by_cases c : t % 2 = 1
  · simp only [if_pos c]
    rw [e (n - 1 - k) (by omega) (by omega)]
    omega
  · simp only [if_neg c]
    exact e k h0 h1

/-! ### the laws' plans without a ring -/
structure GoodAt (many : Int) (i : Nat) (g : Gate) : Prop where
  ok : ∀ lines, many + i ≤ lines → errGate g lines = none
  lo : ∀ s ∈ g.srcs, 0 ≤ s ∧ s < many + i
  str : PyData.strOk g.kind = true
def Good (many : Int) (gs : List Gate) : Prop := ∀ (i : Nat) g, gs[i]? = some g → GoodAt many i g
theorem good_nil (many : Int) : Good many [] := fun i g h => by simp at h
theorem good_snoc {many : Int} {gs : List Gate} {g : Gate} (h : Good many gs) (hg : GoodAt many gs.length g) : Good many (gs ++ [g]) := fun i x hx => by
  by_cases c : i < gs.length
  · rw [List.getElem?_append_left c] at hx
    exact h i x hx
  · rw [List.getElem?_append_right (by omega)] at hx
    have e : i - gs.length = 0 := by
      have := (List.getElem?_eq_some_iff.mp hx).1
      simp at this; omega
    have e2 : i = gs.length := by omega
    rw [e] at hx
    simp at hx
    subst hx
    rw [e2]; exact hg
theorem good_gateBy {c many most : Int} {i : Nat} (hm : 0 ≤ many) (h0 : 0 < most) (h1 : most ≤ 60) : GoodAt many i (gateBy c (many + i) most) := by
  have q := fun lines h => gateBy_ok (c := c) (below := many + i) (most := most) (lines := lines) (by omega) h h0 h1
  exact ⟨fun lines h => (q lines h).1, (q _ (Int.le_refl _)).2.1, (q _ (Int.le_refl _)).2.2⟩
theorem good_not {many d : Int} {i : Nat} (hm : 0 ≤ many) (h : many + i ≠ 0) (hd : 1 ≤ d ∧ d ≤ 60) : GoodAt many i ⟨"not", [many + i - 1], d⟩ := by
  refine ⟨fun lines hl => gate_err (lo := 1) (hi := 1) rfl ⟨by show (1:Int) ≤ ((1:Nat):Int); decide, by show ((1:Nat):Int) ≤ 1; decide⟩ (fun s hs => ?_) hd, fun s hs => ?_, by show PyData.strOk "not" = true; decide +kernel⟩
  · rcases List.mem_singleton.mp hs with rfl; omega
  · rcases List.mem_singleton.mp hs with rfl; omega
theorem good_far {far many most : Int} (hm : 0 ≤ many) (h0 : 0 < most) (h1 : most ≤ 60) : ∀ n, Good many (farGates far many most n)
  | 0 => good_nil many
  | n + 1 => by
    rw [farGates]
    refine good_snoc (good_far hm h0 h1 n) ?_
    rw [farGates_len]
    unfold farGate
    split
    · exact good_gateBy hm h0 h1
    · rename_i c
      exact good_not hm (fun h => c (.inr h)) (by omega)
theorem good_add {many most : Int} (hm : 0 ≤ many) (h0 : 0 < most) (h1 : most ≤ 60) : ∀ (cs : List Int) (gs : List Gate), Good many gs → Good many (addGates many most gs cs)
  | [], gs, h => h
  | c :: cs, gs, h => by
    rw [addGates]
    exact good_add hm h0 h1 cs _ (good_snoc h (good_gateBy hm h0 h1))
theorem good_gatesBy {ns : List Int} {many most : Int} (hm : 0 ≤ many) (h0 : 0 < most) (h1 : most ≤ 60) : Good many (gatesBy ns many most) := by
  unfold gatesBy startGates
  refine good_add hm h0 h1 _ _ ?_
  split
  · exact good_far hm h0 h1 _
  · exact good_nil many
theorem good_short {many : Int} {gs : List Gate} (h : Good many gs) : ∀ x ∈ gs, x.srcs.length ≤ 9 := fun x hx => by
  obtain ⟨i, hi1, hi2⟩ := List.getElem_of_mem hx
  have q := h i x (by rw [List.getElem?_eq_getElem hi1, hi2])
  obtain ⟨⟨lo, hi, hw, hlo, hhi⟩, _⟩ := gate_ok (q.ok _ (Int.le_refl _))
  have := wants_le hw
  omega
theorem turned_get {many t : Int} {gs : List Gate} {i : Nat} {g : Gate} (h : (turnedM many gs t).gates[i]? = some g) : ∃ (k : Nat) (x : Gate), gs[k]? = some x ∧ (k : Int) = invOf i gs.length t ∧ g = turnGate many gs.length t x ∧ i < gs.length := by
  have hi : i < gs.length := by
    have := (List.getElem?_eq_some_iff.mp h).1
    unfold turnedM at this
    simpa using this
  have hn : (0 : Int) < gs.length := by omega
  obtain ⟨k0, k1⟩ := invOf_in (i := (i : Int)) (t := t) hn
  have hk : (invOf i gs.length t).toNat < gs.length := by omega
  refine ⟨(invOf i gs.length t).toNat, gs[(invOf i gs.length t).toNat], List.getElem?_eq_getElem hk, by omega, ?_, hi⟩
  unfold turnedM at h
  rw [List.getElem?_map, List.getElem?_range hi] at h
  simp only [Option.map_some, Option.some.injEq] at h
  rw [← h, List.getD_eq_getElem?_getD, List.getElem?_eq_getElem hk]
  rfl
theorem turned_lines (many t : Int) (gs : List Gate) : (turnedM many gs t).lines = many + gs.length := by
  unfold Plan.lines turnedM
  simp
theorem turned_len (many t : Int) (gs : List Gate) : (turnedM many gs t).gates.length = gs.length := by
  unfold turnedM
  simp
theorem moved_in {many n t s : Int} (hn : 0 < n) (h0 : 0 ≤ s) (h1 : s < many + n) (hm : 0 ≤ many) : 0 ≤ moved many n t s ∧ moved many n t s < many + n := by
  unfold moved
  split
  · have := placeOf_in (k := s - many) (t := t) hn
    omega
  · omega
theorem turned_gate {many t lines : Int} {n i : Nat} {g : Gate} (hm : 0 ≤ many) (h : GoodAt many i g) (hi : i < n) (hl : many + n ≤ lines) : errGate (turnGate many n t g) lines = none := by
  obtain ⟨⟨lo, hi', hw, hlo, hhi⟩, _, hd⟩ := gate_ok (h.ok _ (Int.le_refl _))
  refine gate_err (lo := lo) (hi := hi') hw (by unfold turnGate; simp only [List.length_map]; exact ⟨hlo, hhi⟩) (fun s hs => ?_) hd
  obtain ⟨s', hs', rfl⟩ := List.mem_map.mp hs
  have := h.lo s' hs'
  have := moved_in (many := many) (n := n) (t := t) (s := s') (by omega) (by omega) (by omega) hm
  omega
theorem turned_valid {many t : Int} {gs : List Gate} (hm : 0 ≤ many) (hm2 : many ≤ 60) (hl : gs.length ≤ 200) (h : Good many gs) : Valid (turnedM many gs t) := by
  refine ⟨hm, hm2, by rw [turned_len]; exact hl, fun g hg => ?_⟩
  obtain ⟨i, hi1, hi2⟩ := List.getElem_of_mem hg
  obtain ⟨k, x, hk, _, rfl, _⟩ := turned_get (i := i) (by rw [List.getElem?_eq_getElem hi1, hi2])
  exact turned_gate hm (h k x hk) (List.getElem?_eq_some_iff.mp hk).1 (by rw [turned_lines]; omega)
theorem turned_free {many t : Int} {gs : List Gate} (hm : 0 ≤ many) (h : Good many gs) : Free (turnedM many gs t) := by
  refine ⟨fun l => if l < many then 0 else (invOf (l - many) gs.length t).toNat + 1, fun i g hg s hs => ?_⟩
  obtain ⟨k, x, hk, hki, rfl, hi⟩ := turned_get hg
  obtain ⟨s', hs', rfl⟩ := List.mem_map.mp hs
  have hlo := (h k x hk).lo s' hs'
  have hkl := (List.getElem?_eq_some_iff.mp hk).1
  have e1 : ¬ ((turnedM many gs t).many + (i : Int) < many) := by show ¬ (many + (i : Int) < many); omega
  have e2 : (turnedM many gs t).many + (i : Int) - many = i := by show many + (i : Int) - many = i; omega
  simp only [if_neg e1, e2, ← hki]
  unfold moved
  by_cases c : many ≤ s'
  · rw [if_pos c]
    have hp := placeOf_in (k := s' - many) (t := t) (show (0 : Int) < gs.length by omega)
    rw [if_neg (by omega), show many + placeOf (s' - many) gs.length t - many = placeOf (s' - many) gs.length t by omega, inv_place (by omega) (by omega)]
    omega
  · rw [if_neg c, if_pos (by omega)]
    omega
theorem turned_str {many t : Int} {gs : List Gate} (h : Good many gs) : ∀ g ∈ (turnedM many gs t).gates, PyData.strOk g.kind = true := fun g hg => by
  obtain ⟨i, hi1, hi2⟩ := List.getElem_of_mem hg
  obtain ⟨k, x, hk, _, rfl, _⟩ := turned_get (i := i) (by rw [List.getElem?_eq_getElem hi1, hi2])
  exact (h k x hk).str
def freePlan (ns : List Int) (most : Int) : Plan := turnedM (manyOf (cell ns 0)) (gatesBy ns (manyOf (cell ns 0)) most) (cell ns 2)
theorem free_ok {ns : List Int} {most : Int} (hn : ns.length ≤ 63) (h0 : 0 < most) (h1 : most ≤ 60) : Valid (freePlan ns most) ∧ Free (freePlan ns most) ∧ ∀ g ∈ (freePlan ns most).gates, PyData.strOk g.kind = true := by
  obtain ⟨m0, m1⟩ := manyOf_in (cell ns 0)
  have hg := good_gatesBy (ns := ns) (most := most) m0 h0 h1
  exact ⟨turned_valid m0 m1 (gatesBy_len hn) hg, turned_free m0 hg, turned_str hg⟩

/-! ### late times -/
def gateN (p : Plan) (l : Int) : Gate := p.gates.getD (l - p.many).toNat ⟨"", [], 0⟩
/-- what a line's number is, by the others' -/
def dueOf (p : Plan) (ts : List Int) (l : Int) : Int :=
  if (gateN p l).srcs = [] then 0 else (gateN p l).delay + maxOr 0 ((gateN p l).srcs.map fun s => ts.getD s.toNat 0)
def lateStep (p : Plan) (ts : List Int) (l : Int) : List Int := if (gateN p l).srcs = [] then ts else ts.set l.toNat (dueOf p ts l)
def lateBy (p : Plan) (ls : List Int) : List Int := ls.foldl (lateStep p) (List.replicate p.lines.toNat 0)
def lateM (p : Plan) : Except Err (List Int) := match orderM p with
  | .error e => .error e
  | .ok f => .ok (lateBy p f)
theorem lateBy_snoc (p : Plan) (ls : List Int) (l : Int) : lateBy p (ls ++ [l]) = lateStep p (lateBy p ls) l := by
  unfold lateBy; rw [List.foldl_append]; rfl
theorem lateStep_len (p : Plan) (ts : List Int) (l : Int) : (lateStep p ts l).length = ts.length := by
  unfold lateStep
  split
  · rfl
  · exact List.length_set
theorem lateF_len (p : Plan) : ∀ (ls ts : List Int), (ls.foldl (lateStep p) ts).length = ts.length := fun ls => by
  induction ls with
  | nil => intro ts; rfl
  | cons l r ih => intro ts; rw [List.foldl_cons, ih, lateStep_len]
theorem lateBy_len (p : Plan) (ls : List Int) : (lateBy p ls).length = p.lines.toNat := by
  unfold lateBy
  rw [lateF_len, List.length_replicate]
theorem getD_set_ne {α : Type} {d : List α} {i j : Nat} {b x : α} (h : i ≠ j) : (d.set i b).getD j x = d.getD j x := by
  rw [List.getD_eq_getElem?_getD, List.getElem?_set, if_neg h, ← List.getD_eq_getElem?_getD]
theorem getD_set_eq {α : Type} {d : List α} {i : Nat} {b x : α} (h : i < d.length) : (d.set i b).getD i x = b := by
  rw [List.getD_eq_getElem?_getD, List.getElem?_set]; simp [h]
theorem lateF_keep (p : Plan) (k : Nat) : ∀ (ls ts : List Int), (∀ l ∈ ls, l.toNat ≠ k) → (ls.foldl (lateStep p) ts).getD k 0 = ts.getD k 0
  | [], _, _ => rfl
  | l :: r, ts, h => by
    rw [List.foldl_cons, lateF_keep p k r _ fun x hx => h x (List.mem_cons_of_mem _ hx)]
    unfold lateStep
    split
    · rfl
    · exact getD_set_ne (h l List.mem_cons_self)
theorem replicate_getD (n k : Nat) : (List.replicate n (0 : Int)).getD k 0 = 0 := by
  rw [List.getD_eq_getElem?_getD, List.getElem?_replicate]
  split <;> rfl
/-! a plan's order, told -/
theorem order_ok {p : Plan} {f : List Int} (h : orderM p = .ok f) : Valid p ∧ f = (goneM p).1 ∧ (goneM p).1.length = p.gates.length := by
  unfold orderM at h
  cases e : errPlan p with
  | some x => rw [e] at h; cases h
  | none =>
    rw [e] at h
    have v := valid_iff.mp e
    by_cases c : (goneM p).1.length < p.gates.length
    · simp only [if_pos c] at h; cases h
    · simp only [if_neg c] at h
      cases h
      obtain ⟨gi, _⟩ := gone_inv v.m0
      exact ⟨v, rfl, by have := gi.cnt; omega⟩
theorem cntF_zero' : ∀ {d : List Bool}, cntF d = 0 → ∀ i, i < d.length → d.getD i false = true
  | [], _, i, h => by simp at h
  | b :: r, h, i, hi => by
    cases b with
    | false => simp [cntF] at h
    | true =>
      cases i with
      | zero => rfl
      | succ i => exact cntF_zero' (d := r) (by simpa [cntF] using h) i (by simpa using hi)
/-- all gates' lines stand in it, once -/
theorem order_mem {p : Plan} {f : List Int} (h : orderM p = .ok f) : f.Nodup ∧ ∀ l : Int, l ∈ f ↔ p.many ≤ l ∧ l < p.lines := by
  obtain ⟨v, rfl, hl⟩ := order_ok h
  obtain ⟨gi, _⟩ := gone_inv v.m0
  refine ⟨gi.nd, fun l => ?_⟩
  rw [gi.fnd l]
  constructor
  · exact fun ⟨a, b, _⟩ => ⟨a, b⟩
  · rintro ⟨a, b⟩
    refine ⟨a, b, cntF_zero' (by have := gi.cnt; omega) _ ?_⟩
    have := gi.len
    have := v.m0
    omega
theorem doneBy_get {p : Plan} {s : Int} (h0 : 0 ≤ s) : ∀ (ls : List Int) (d : List Bool), (∀ l ∈ ls, 0 ≤ l) → (doneBy d ls).getD s.toNat false = true → d.getD s.toNat false = true ∨ s ∈ ls
  | [], _, _, h => .inl h
  | l :: r, d, hp, h => by
    have l0 := hp l List.mem_cons_self
    rcases doneBy_get (p := p) h0 r (d.set l.toNat true) (fun x hx => hp x (List.mem_cons_of_mem _ hx)) h with q | q
    · by_cases c : l.toNat = s.toNat
      · exact .inr (by rw [show s = l by omega]; exact List.mem_cons_self)
      · exact .inl (by rw [getD_set_ne c] at q; exact q)
    · exact .inr (List.mem_cons_of_mem _ q)
/-- each line's sources are inputs or stand ahead of it -/
theorem order_srcs {p : Plan} {f : List Int} (h : orderM p = .ok f) {i : Nat} {l : Int} (hl : f[i]? = some l) : ∀ s ∈ (gateN p l).srcs, 0 ≤ s ∧ s < p.lines ∧ (s < p.many ∨ s ∈ f.take i) := by
  obtain ⟨v, rfl, _⟩ := order_ok h
  obtain ⟨gi, _⟩ := gone_inv v.m0
  obtain ⟨j, g, hg, e, _, hs⟩ := ready_some (gone_steps p i l hl)
  intro s hss
  have eg : gateN p l = g := by
    unfold gateN
    rw [List.getD_eq_getElem?_getD, show (l - p.many).toNat = j by omega, hg]; rfl
  rw [eg] at hss
  obtain ⟨_, hsr, _⟩ := gate_ok (v.gate g (List.mem_of_getElem? hg))
  obtain ⟨s0, s1⟩ := hsr s hss
  refine ⟨s0, s1, ?_⟩
  rcases doneBy_get (p := p) s0 _ _ (fun x hx => by have := ((gi.fnd x).mp (List.mem_of_mem_take hx)).1; have := v.m0; omega) (okSrcs_iff.mp hs s hss) with q | q
  · rw [done0_get (by omega)] at q
    have := of_decide_eq_true q
    left; omega
  · exact .inr q
/-- what late tells -/
theorem late_law {p : Plan} {f : List Int} (h : orderM p = .ok f) {l : Int} (l0 : 0 ≤ l) (l1 : l < p.lines) : (lateBy p f).getD l.toNat 0 = if l < p.many then 0 else dueOf p (lateBy p f) l := by
  obtain ⟨v, hf, _⟩ := order_ok h
  obtain ⟨nd, hm⟩ := order_mem h
  have m0 := v.m0
  have pos : ∀ x ∈ f, 0 ≤ x := fun x hx => by have := ((hm x).mp hx).1; omega
  by_cases c : l < p.many
  · rw [if_pos c]
    unfold lateBy
    rw [lateF_keep p _ f _ fun x hx => by have := ((hm x).mp hx).1; omega, replicate_getD]
  · rw [if_neg c]
    obtain ⟨i, hi, hil⟩ := List.getElem_of_mem ((hm l).mpr ⟨by omega, l1⟩)
    have hl : f[i]? = some l := by rw [List.getElem?_eq_getElem hi, hil]
    have hsp : f = f.take i ++ l :: f.drop (i + 1) := by
      have : f.drop i = l :: f.drop (i + 1) := by rw [List.drop_eq_getElem_cons hi, hil]
      rw [← this, List.take_append_drop]
    have nd2 := nd
    rw [hsp, List.nodup_append] at nd2
    obtain ⟨_, nd3, nd4⟩ := nd2
    obtain ⟨nd5, _⟩ := List.nodup_cons.mp nd3
    have e1 : lateBy p f = (f.drop (i + 1)).foldl (lateStep p) (lateStep p (lateBy p (f.take i)) l) := by
      conv => lhs; rw [hsp]
      unfold lateBy
      rw [List.foldl_append, List.foldl_cons]
    have restd : ∀ x ∈ f.drop (i + 1), 0 ≤ x := fun x hx => pos x (List.mem_of_mem_drop hx)
    have k1 : (lateBy p f).getD l.toNat 0 = (lateStep p (lateBy p (f.take i)) l).getD l.toNat 0 := by
      rw [e1]
      exact lateF_keep p _ _ _ fun x hx hxe => nd5 (by have := restd x hx; rw [show l = x by omega]; exact hx)
    have k0 : (lateBy p (f.take i)).getD l.toNat 0 = 0 := by
      unfold lateBy
      rw [lateF_keep p _ (f.take i) _ fun x hx hxe => ?_, replicate_getD]
      have := pos x (List.mem_of_mem_take hx)
      exact nd4 x hx l List.mem_cons_self (by omega)
    have hsr := order_srcs h hl
    have ks : ∀ s ∈ (gateN p l).srcs, (lateBy p f).getD s.toNat 0 = (lateBy p (f.take i)).getD s.toNat 0 := fun s hs => by
      obtain ⟨s0, s1, hd⟩ := hsr s hs
      have ns : ∀ x ∈ l :: f.drop (i + 1), x.toNat ≠ s.toNat := fun x hx hxe => by
        have x0 : 0 ≤ x := by
          rcases List.mem_cons.mp hx with rfl | hx
          · exact l0
          · exact restd x hx
        rcases hd with hd | hd
        · have : p.many ≤ x := by
            rcases List.mem_cons.mp hx with rfl | hx
            · omega
            · exact ((hm x).mp (List.mem_of_mem_drop hx)).1
          omega
        · exact nd4 s hd x hx (by omega)
      rw [e1, ← List.foldl_cons (f := lateStep p)]
      exact lateF_keep p _ _ _ ns
    have kd : dueOf p (lateBy p f) l = dueOf p (lateBy p (f.take i)) l := by
      unfold dueOf
      rw [List.map_congr_left ks]
    rw [k1, kd]
    unfold lateStep
    by_cases c2 : (gateN p l).srcs = []
    · rw [if_pos c2, k0]
      unfold dueOf
      rw [if_pos c2]
    · rw [if_neg c2, getD_set_eq]
      rw [lateBy_len]; omega
theorem maxOr_ge : ∀ {ns : List Int}, (∀ y ∈ ns, 0 ≤ y) → 0 ≤ maxOr 0 ns
  | [], _ => Int.le_refl _
  | n :: r, h => h _ (maxOr_spec (n := n) r).1
theorem lateF_pos {p : Plan} (hd : ∀ g ∈ p.gates, 0 ≤ g.delay) : ∀ (ls ts : List Int), (∀ y ∈ ts, 0 ≤ y) → ∀ y ∈ ls.foldl (lateStep p) ts, 0 ≤ y
  | [], _, h => h
  | l :: r, ts, h => by
    refine lateF_pos hd r _ fun y hy => ?_
    unfold lateStep at hy
    split at hy
    · exact h y hy
    · rcases List.mem_or_eq_of_mem_set hy with hy | rfl
      · exact h y hy
      · unfold dueOf
        rename_i c
        rw [if_neg c]
        have h1 : 0 ≤ (gateN p l).delay := by
          unfold gateN
          rw [List.getD_eq_getElem?_getD]
          cases e : p.gates[(l - p.many).toNat]? with
          | none => exact Int.le_refl _
          | some g => exact hd g (List.mem_of_getElem? e)
        have h2 : 0 ≤ maxOr 0 ((gateN p l).srcs.map fun s => ts.getD s.toNat 0) := maxOr_ge fun y hy => by
          obtain ⟨s, _, rfl⟩ := List.mem_map.mp hy
          rw [List.getD_eq_getElem?_getD]
          cases e : ts[s.toNat]? with
          | none => exact Int.le_refl _
          | some g => exact h g (List.mem_of_getElem? e)
        omega
theorem late_pos {p : Plan} (v : Valid p) (f : List Int) : ∀ y ∈ lateBy p f, 0 ≤ y :=
  lateF_pos (fun g hg => by obtain ⟨_, _, h, _⟩ := gate_ok (v.gate g hg); omega) f _ fun y hy => by rw [List.eq_of_mem_replicate hy]; exact Int.le_refl _
def mx2 (i j : Int) : Int := if j > i then j else i
theorem mx2_fold : ∀ (ns : List Int) (a : Int), (ns.foldl mx2 a = a ∨ ns.foldl mx2 a ∈ ns) ∧ a ≤ ns.foldl mx2 a ∧ ∀ y ∈ ns, y ≤ ns.foldl mx2 a
  | [], a => ⟨.inl rfl, Int.le_refl _, fun y hy => by cases hy⟩
  | n :: r, a => by
    rw [List.foldl_cons]
    obtain ⟨h1, h2, h3⟩ := mx2_fold r (mx2 a n)
    have k : mx2 a n = a ∨ mx2 a n = n := by unfold mx2; split <;> simp
    have k1 : a ≤ mx2 a n := by unfold mx2; split <;> omega
    have k2 : n ≤ mx2 a n := by unfold mx2; split <;> omega
    refine ⟨?_, by omega, fun y hy => ?_⟩
    · rcases h1 with h1 | h1
      · rcases k with k | k
        · left; omega
        · right; rw [h1, k]; exact List.mem_cons_self
      · right; exact List.mem_cons_of_mem _ h1
    · rcases List.mem_cons.mp hy with rfl | hy
      · omega
      · exact h3 y hy
theorem mx2_max {ns : List Int} (h : ∀ y ∈ ns, 0 ≤ y) : ns.foldl mx2 0 = maxOr 0 ns := by
  cases ns with
  | nil => rfl
  | cons n r =>
    obtain ⟨h1, h2, h3⟩ := mx2_fold (n :: r) 0
    refine maxOr_un ?_ h3
    rcases h1 with h1 | h1
    · have := h3 n List.mem_cons_self
      have := h n List.mem_cons_self
      have e : (n :: r).foldl mx2 0 = n := by omega
      rw [e]; exact List.mem_cons_self
    · exact h1

/-! ### try, except -/
def rIsX (K : PySem.W.Frag) (cls : Value) (d : Option Addr) (a : Addr) : List V → Hp → VK → Prop := fun xs H Q => ∃ C, cls = .ref C ∧ d = none ∧ ExcC K C ∧ rIsE K C a xs H Q
theorem call_isX (K : PySem.W.Frag) {X : Cx} {a : Addr} {cls : Value} {d : Option Addr} {oe : Obj} {pn : List (Addr × Obj)} (hz : Zc cls d oe) (hf : ∃ vs, oe.data = .fields vs) (h : X.K = K := by rfl) : CallR (X.suite a ((a, oe) :: pn)) (.builtin "isinstance") (rIsX K cls d a) := by
  subst h
  intro pins s σ H xs us Q I r h
  obtain ⟨C, rfl, rfl, hC, h⟩ := h
  exact call_isE hC hz hf pins s σ H xs us Q I r h
section
variable {K : PySem.W.Frag} {σ : L2.St} {G H : Hp} {ta tb te tl : TE} {t : TT} {v : V} {D : Ends} {tu tw tz : TS} {ts : Addr → Value → Option Addr → TS} {i : Nat} {W : WX} {tB : WX → TS} {c cls : Value} {d : Option Addr} {a C : Addr} {b : Bool}
theorem ev_isX (ha : Ev ta σ G (.ref a)) (hb : Ev tb σ G v) (hC : ExcC K C) (hv : ∀ u, RelV v u → u = c) (hk : PySem.W.kitOne K (.ref C) c = some b) : Ev (tCB (rIsX K (.ref C) none a) (tCons ta (tCons tb tNil))) σ G (.bl b) := fun H e Q q =>
  ha H e _ fun H1 e1 => hb H1 (e.trans e1) _ fun H2 e2 => ⟨C, rfl, rfl, hC, v, c, b, rfl, hv, hk, q H2 (e1.trans e2)⟩
theorem go_tryO (h : Go (tB (wOnly K c ts W { D with nx := tz D })) { D with nx := tz D } σ G) : Go (tSeq (fun D σ H => tB (wOnly K c ts W D) D σ H) tz) D σ G := h
theorem go_tryA (h : Go (tB (wAs K c i ts W { D with nx := tz D })) { D with nx := tz D } σ G) : Go (tSeq (fun D σ H => tB (wAs K c i ts W D) D σ H) tz) D σ G := h
/-- the clause takes it -/
theorem wo_hit (h : PySem.W.exmOne K cls c = some true) (e : Ex G H) (k : ∀ a, G a = none → Go (ts a cls d) D σ G) : wOnly K c ts W D cls d σ H :=
  ⟨true, h, fun _ a ha => k a (e.none ha) H e, fun z => (by cases z)⟩
theorem wo_miss (h : PySem.W.exmOne K cls c = some false) (k : W cls d σ H) : wOnly K c ts W D cls d σ H := ⟨false, h, fun z => (by cases z), fun _ => k⟩
theorem wa_hit (h : PySem.W.exmOne K cls c = some true) (e : Ex G H) (k : ∀ a, G a = none → Go (ts a cls d) { nx := fun σ' H' => D.nx (σ'.set i none) H', rt := D.rt, bk := fun σ' H' => D.bk (σ'.set i none) H', ct := fun σ' H' => D.ct (σ'.set i none) H' } (σ.set i (some (.ref a))) G) : wAs K c i ts W D cls d σ H :=
  ⟨true, h, fun _ a ha => k a (e.none ha) H e, fun z => (by cases z)⟩
end
theorem exm_of {K : PySem.W.Frag} {C S : Addr} {b : Bool} (h1 : PySem.W.subIn K (.ref S) (.type "BaseException") = some true) (h2 : PySem.W.isClsIn K S = true) (h3 : PySem.W.typeIn K (.ref S) = some (.type "type")) (h4 : PySem.W.subIn K (.ref C) (.ref S) = some b) :
    PySem.W.exmOne K (.ref C) (.ref S) = some b := by
  have e1 : (PySem.W.subIn K (.ref S) (.type "BaseException") == some true) = true := by rw [h1] <;> rfl
  have e2 : ((PySem.W.clsIn K S).isSome && PySem.W.typeIn K (.ref S) == some (.type "type")) = true := by
    have h2' : (PySem.W.clsIn K S).isSome = true := h2
    rw [h2', h3] <;> rfl
  show (if (PySem.W.subIn K (.ref S) (.type "BaseException") == some true) = true then (if ((PySem.W.clsIn K S).isSome && PySem.W.typeIn K (.ref S) == some (.type "type")) = true then PySem.W.subIn K (.ref C) (.ref S) else none) else none) = some b
  rw [if_pos e1, if_pos e2]
  exact h4
theorem kit_ref {K : PySem.W.Frag} {C S : Addr} {b : Bool} (h2 : PySem.W.isClsIn K S = true) (h3 : PySem.W.typeIn K (.ref S) = some (.type "type")) (h4 : PySem.W.subIn K (.ref C) (.ref S) = some b) (hb : (Value.ref C == Value.ref S) = true → b = true) :
    PySem.W.kitOne K (.ref C) (.ref S) = some b := by
  unfold PySem.W.kitOne
  split
  · rename_i h; rw [hb h]
  · have h2' : (PySem.W.clsIn K S).isSome = true := h2
    show (if ((PySem.W.clsIn K S).isSome && PySem.W.typeIn K (.ref S) == some (.type "type")) = true then PySem.W.subIn K (.ref C) (.ref S) else none) = some b
    rw [if_pos (by rw [h2', h3] <;> rfl)]
    exact h4
theorem kit_ve {K : PySem.W.Frag} {C : Addr} {b : Bool} (h4 : PySem.W.subIn K (.ref C) (.type "ValueError") = some b) : PySem.W.kitOne K (.ref C) (.type "ValueError") = some b := by
  unfold PySem.W.kitOne
  split
  · rename_i h; cases h
  · show (if PySem.W.kitMeta "ValueError" = true then PySem.W.subIn K (.ref C) (.type "ValueError") else none) = some b
    rw [if_pos (by decide +kernel)]
    exact h4
section
variable {σ : L2.St} {G : Hp} {ta : TE} {D' : Ends} {tz : TS} {i : Nat} {rt : VK} {bk ct : L2.St → Hp → Prop} {k : Bool}
theorem go_upA (h : Go tz D' (σ.set i none) G) : Go tNext ⟨fun σ' H' => tz D' (σ'.set i none) H', rt, bk, ct⟩ σ G := h
theorem ev_intB (h : Ev ta σ G (.bl k)) : Ev (tCB rInt1 (tCons ta tNil)) σ G (.int (if k then 1 else 0)) := fun H e Q q => h H e _ fun H1 e1 => .inr ⟨k, rfl, q H1 e1⟩
end
theorem go_raw {ts tz : TS} {D : Ends} {σ : L2.St} {G : Hp} (h : ∀ H, Ex G H → ts { D with nx := tz D } σ H) : Go (tSeq ts tz) D σ G := h
theorem Go.app {ts : TS} {D : Ends} {σ : L2.St} {G H : Hp} (h : Go ts D σ G) (e : Ex G H) : ts D σ H := h H e
section
variable {K : PySem.W.Frag} {σ : L2.St} {G : Hp} {ta tb : TE} {tA : TA} {sp : Sp} {E : L2.St → XK} {z : V} {xs ys : List V}
theorem ev_callP {A : List V → Hp → Prop} (h : EvAP tA σ G A) (hs : ∀ vs G', Ex G G' → A vs G' → SpV sp vs G' z) : Ev (tCallS sp E tA) σ G z := fun H e Q q =>
  h H e _ fun vs G1 H1 g1 g2 e1 p => hs vs G1 g1 p H1 g2 Q (fun H2 e2 => q H2 (e1.trans e2)) (E σ)
theorem eap_LL (h : EvL ta σ G xs) (h2 : EvL tb σ G ys) : EvAP (tCons ta (tCons tb tNil)) σ G fun vs G' => ∃ p q, vs = [.ref p, .ref q] ∧ G' p = some (.lst xs) ∧ G' q = some (.lst ys) := fun H e Q q =>
  h H e _ fun p H1 _ e1 h1 => h2 H1 (e.trans e1) _ fun p2 H2 _ e2 k2 => q [.ref p, .ref p2] H2 H2 ((e.trans e1).trans e2) (Ex.refl _) (e1.trans e2) ⟨p, p2, rfl, e2 _ _ h1, k2⟩
end

/-! ### comprehensions whose elements are made on the way -/
def Cp {β : Type} (H : Hp) (R : Hp → V → β → Prop) (bs : List β) (Dl : Addr) (i : Nat) (H' : Hp) : Prop := H Dl = none ∧ Ex H H' ∧ ∃ ws, H' Dl = some (.lst ws) ∧ Rows (R H') ws (bs.take i)
/-- what is said of the elements lasts: while the heap grows, while lists change -/
structure Lasts {β : Type} (R : Hp → V → β → Prop) : Prop where
  mono : ∀ v b H H', Ex H H' → R H v b → R H' v b
  put : ∀ v b H l ys o, H l = some (.lst ys) → R H v b → R (upd H l o) v b
section
variable {β : Type} {K : PySem.W.Frag} {σ : L2.St} {G H : Hp} {ta te tl : TE} {j : Nat} {vs : List Nat} {R : Hp → V → β → Prop} {bs : List β}
theorem cp_turn (L : Lasts R) {H' : Hp} {Dl : Addr} {i : Nat} {b : β} {σ2 : L2.St} (p : Cp H R bs Dl i H') (hi : bs[i]? = some b) (hz : bs.length ≤ 40000) (he : EvP te σ2 H fun v G' => R G' v b) :
    tYes σ2 H' fun b H3 => if b = true then te σ2 H3 fun y H4 => ∃ acc, H4 Dl = some (.lst acc) ∧ acc.length < sizeLine ∧ Cp H R bs Dl (i + 1) (upd H4 Dl (.lst (acc ++ [y]))) else Cp H R bs Dl (i + 1) H3 := by
  obtain ⟨p1, p2, ws, p3, p4⟩ := p
  show te σ2 H' fun y H4 => ∃ acc, H4 Dl = some (.lst acc) ∧ acc.length < sizeLine ∧ Cp H R bs Dl (i + 1) (upd H4 Dl (.lst (acc ++ [y])))
  refine he H' p2 _ fun v G' H4 _ g2 e4 hv => ?_
  have hD := e4 Dl _ p3
  refine ⟨ws, hD, sz_lt (by have := p4.1; rw [List.length_take] at this; omega), p1, Ex.mut (p2.trans e4) p1, ws ++ [v], upd_same, ?_⟩
  rw [List.take_add_one, hi]
  show Rows _ _ (bs.take i ++ [b])
  exact rows_snoc (rows_imp p4 fun x y r => L.put _ _ _ _ _ _ hD (L.mono _ _ _ _ e4 r)) (L.put _ _ _ _ _ _ hD (L.mono _ _ _ _ g2 hv))
theorem cp_end {H0 : Hp} {Dl : Addr} {n : Nat} {Q : VK} (e : Ex H0 H) (hn : n = bs.length) (q : ∀ v G' H', Ex H0 G' → Ex G' H' → (∃ p ws, v = .ref p ∧ H0 p = none ∧ G' p = some (.lst ws) ∧ Rows (R G') ws bs) → Q v H') (H' : Hp) (p : Cp H R bs Dl n H') : Q (.ref Dl) H' := by
  obtain ⟨p1, p2, ws, p3, p4⟩ := p
  refine q _ H' H' (e.trans p2) (Ex.refl _) ⟨Dl, ws, rfl, e.none p1, p3, ?_⟩
  rw [hn, List.take_length] at p4
  exact p4
abbrev LstOf (R : Hp → V → β → Prop) (G : Hp) (bs : List β) (v : V) (G' : Hp) : Prop := ∃ p ws, v = .ref p ∧ G p = none ∧ G' p = some (.lst ws) ∧ Rows (R G') ws bs
theorem ep_lcP {α : Type} (as : List α) (inj : α → V) (f : α → β) (L : Lasts R) {a : Addr} (h : Ev tl σ G (.ref a)) (hx : SqL K G a (as.map inj)) (hz : as.length ≤ 40000) (hw : ∀ x, wipe ((wipe σ vs).set j (some x)) vs = wipe σ vs)
    (he : ∀ x, x ∈ as → EvP te ((wipe σ vs).set j (some (inj x))) G fun v G' => R G' v (f x)) : EvP (tLc (iList K tl) (gName j) tYes te vs) σ G (LstOf R G (as.map f)) := fun H0 e Q q => h H0 e _ fun H1 e1 =>
  ⟨a, rfl, ⟨_, ex_l (e.trans e1) hx⟩, fun Dl hD => lc_list (xs := as.map inj) (Cp H1 R (as.map f) Dl) ⟨hD, Ex.new hD, [], upd_same, rows_nil⟩ (fun i H' _ p => ex_l ((e.trans e1).trans p.2.1) hx)
    (fun i x H' hi p => by
      rw [List.getElem?_map] at hi
      cases hc : as[i]? with
      | none => rw [hc] at hi; cases hi
      | some c =>
        rw [hc] at hi
        cases hi
        exact ⟨hw _, cp_turn L p (b := f c) (by rw [List.getElem?_map, hc]; rfl) (by rw [List.length_map]; exact hz) fun H2 e2 Q q => he c (List.mem_of_getElem? hc) H2 ((e.trans e1).trans e2) Q fun v G' H' g1 g2 e3 p => q v H' H' (e2.trans e3) (Ex.refl _) e3 (L.mono _ _ _ _ g2 p)⟩)
    (fun H' p => cp_end (Ex.refl H1) (by rw [List.length_map, List.length_map]) (fun v G' H' g1 g2 ⟨p, ws, r1, r2, r3, r4⟩ => q v G' H' ((e.trans e1).trans g1) g2 ((e1.trans g1).trans g2) ⟨p, ws, r1, (e.trans e1).none r2, r3, r4⟩) H' p)⟩
theorem ep_lcPN {α : Type} (as : List α) (inj : α → V) (f : α → β) (L : Lasts R) (h : EvL tl σ G (as.map inj)) (hz : as.length ≤ 40000) (hw : ∀ x, wipe ((wipe σ vs).set j (some x)) vs = wipe σ vs)
    (he : ∀ x, x ∈ as → EvP te ((wipe σ vs).set j (some (inj x))) G fun v G' => R G' v (f x)) : EvP (tLc (iList K tl) (gName j) tYes te vs) σ G (LstOf R G (as.map f)) := fun H0 e Q q => h H0 e _ fun a H1 ha e1 hx =>
  ⟨a, rfl, ⟨_, sq_of hx⟩, fun Dl hD => lc_list (xs := as.map inj) (Cp H1 R (as.map f) Dl) ⟨hD, Ex.new hD, [], upd_same, rows_nil⟩ (fun i H' _ p => sq_of (p.2.1 a _ hx))
    (fun i x H' hi p => by
      rw [List.getElem?_map] at hi
      cases hc : as[i]? with
      | none => rw [hc] at hi; cases hi
      | some c =>
        rw [hc] at hi
        cases hi
        exact ⟨hw _, cp_turn L p (b := f c) (by rw [List.getElem?_map, hc]; rfl) (by rw [List.length_map]; exact hz) fun H2 e2 Q q => he c (List.mem_of_getElem? hc) H2 ((e.trans e1).trans e2) Q fun v G' H' g1 g2 e3 p => q v H' H' (e2.trans e3) (Ex.refl _) e3 (L.mono _ _ _ _ g2 p)⟩)
    (fun H' p => cp_end (Ex.refl H1) (by rw [List.length_map, List.length_map]) (fun v G' H' g1 g2 ⟨p, ws, r1, r2, r3, r4⟩ => q v G' H' ((e.trans e1).trans g1) g2 ((e1.trans g1).trans g2) ⟨p, ws, r1, (e.trans e1).none r2, r3, r4⟩) H' p)⟩
theorem ep_lcPR {tA : TA} {n : Int} (f : Int → β) (L : Lasts R) (h : EvA tA σ G [.int n]) (hn : 0 ≤ n ∧ n ≤ 40000) (hw : ∀ x, wipe ((wipe σ vs).set j (some x)) vs = wipe σ vs)
    (he : ∀ k : Int, 0 ≤ k → k < n → EvP te ((wipe σ vs).set j (some (.int k))) G fun v G' => R G' v (f k)) : EvP (tLc (iRng1 tA) (gName j) tYes te vs) σ G (LstOf R G ((List.range n.toNat).map fun i : Nat => f (i : Int))) := fun H0 e Q q => h H0 e _ fun H1 e1 =>
  ⟨n, rfl, by omega, by omega, fun Dl hD => lc_range (lo := 0) (n := n.toNat) (Cp H1 R ((List.range n.toNat).map fun i : Nat => f (i : Int)) Dl) ⟨hD, Ex.new hD, [], upd_same, rows_nil⟩
    (fun i H' hi p => by
      have e0 : (0 : Int) + (i : Int) = (i : Int) := Int.zero_add _
      show wipe ((wipe σ vs).set j (some (.int ((0 : Int) + (i : Int))))) vs = wipe σ vs ∧ _
      rw [e0]
      exact ⟨hw _, cp_turn L p (b := f (i : Int)) (by rw [List.getElem?_map, List.getElem?_range hi]; rfl) (by rw [List.length_map, List.length_range]; omega) fun H2 e2 Q q => he (i : Int) (by omega) (by omega) H2 ((e.trans e1).trans e2) Q fun v G' H' g1 g2 e3 p => q v H' H' (e2.trans e3) (Ex.refl _) e3 (L.mono _ _ _ _ g2 p)⟩)
    (fun H' p => cp_end (Ex.refl H1) (by rw [List.length_map, List.length_range]) (fun v G' H' g1 g2 ⟨p, ws, r1, r2, r3, r4⟩ => q v G' H' ((e.trans e1).trans g1) g2 ((e1.trans g1).trans g2) ⟨p, ws, r1, (e.trans e1).none r2, r3, r4⟩) H' p)⟩
end
theorem lasts_gate (K : PySem.W.Frag) : Lasts (GateAt K) := ⟨fun _ _ _ _ e h => h.mono e, fun _ _ _ _ _ _ hl h => h.put hl⟩

/-! ### the laws' plans of any lines -/
def ringGates (many : Int) (n : Int) : List Gate := (List.range n.toNat).map fun k : Nat => ⟨"not", [many + ((k : Int) + 1) % n], 1⟩
def looseCells (ns : List Int) : List Int := if cell ns 1 % 8 = 5 then ((List.range (60 + cell ns 1 / 8 % 131).toNat).map fun k : Nat => cell ns 1 / 8 + 5 * (k : Int)) ++ (ns.drop 3).take 10 else (ns.drop 3).take 200
def looseGates (ns : List Int) (many most : Int) : List Gate :=
  if cell ns 1 % 8 = 2 then ringGates many (60 + cell ns 1 / 8 % 131) ++ ((ns.drop 3).take 10).map fun c => gateBy c (many + (60 + cell ns 1 / 8 % 131)) most
  else (looseCells ns).map fun c => gateBy c (many + (looseCells ns).length) most
def looseP (ns : List Int) (many most : Int) : Plan := ⟨many, looseGates ns many most⟩
def planBy (ns : List Int) (most : Int) : Plan := if cell ns 1 % 3 > 0 then looseP ns (manyOf (cell ns 0)) most else freePlan ns most
theorem looseCells_len {ns : List Int} (h : ns.length ≤ 63) : (looseCells ns).length ≤ 200 := by
  unfold looseCells
  split
  · rw [List.length_append, List.length_map, List.length_range, List.length_take, List.length_drop]
    omega
  · rw [List.length_take]; omega
theorem loose_len {ns : List Int} {many most : Int} (h : ns.length ≤ 63) : (looseGates ns many most).length ≤ 200 := by
  unfold looseGates
  split
  · unfold ringGates
    rw [List.length_append, List.length_map, List.length_range, List.length_map, List.length_take, List.length_drop]
    omega
  · rw [List.length_map]; exact looseCells_len h
theorem loose_ok {ns : List Int} {many most : Int} (h : ns.length ≤ 63) (m0 : 0 ≤ many) (m1 : many ≤ 60) (h0 : 0 < most) (h1 : most ≤ 60) : Valid (looseP ns many most) ∧ ∀ g ∈ (looseP ns many most).gates, PyData.strOk g.kind = true := by
  have main : ∀ g ∈ looseGates ns many most, errGate g (many + (looseGates ns many most).length) = none ∧ PyData.strOk g.kind = true := by
    intro g hg
    by_cases c : cell ns 1 % 8 = 2
    · have e : looseGates ns many most = ringGates many (60 + cell ns 1 / 8 % 131) ++ ((ns.drop 3).take 10).map fun c => gateBy c (many + (60 + cell ns 1 / 8 % 131)) most := by unfold looseGates; rw [if_pos c]
      have hL : (60 + cell ns 1 / 8 % 131 : Int) ≤ (looseGates ns many most).length := by
        rw [e, List.length_append]
        unfold ringGates
        rw [List.length_map, List.length_range]
        omega
      generalize ((looseGates ns many most).length : Int) = len at hL ⊢
      rw [e] at hg
      rcases List.mem_append.mp hg with hg | hg
      · unfold ringGates at hg
        obtain ⟨k, hk, rfl⟩ := List.mem_map.mp hg
        have := List.mem_range.mp hk
        have a := Int.emod_nonneg ((k : Int) + 1) (show (60 + cell ns 1 / 8 % 131 : Int) ≠ 0 by omega)
        have b := Int.emod_lt_of_pos ((k : Int) + 1) (show (0 : Int) < 60 + cell ns 1 / 8 % 131 by omega)
        refine ⟨gate_err (lo := 1) (hi := 1) rfl ⟨by show (1 : Int) ≤ ((1 : Nat) : Int); decide, by show ((1 : Nat) : Int) ≤ 1; decide⟩ (fun s hs => ?_) ⟨by show (1 : Int) ≤ 1; decide, by show (1 : Int) ≤ 60; decide⟩, by show PyData.strOk "not" = true; decide +kernel⟩
        rcases List.mem_singleton.mp hs with rfl
        generalize ((k : Int) + 1) % (60 + cell ns 1 / 8 % 131) = r at *
        omega
      · obtain ⟨c, _, rfl⟩ := List.mem_map.mp hg
        have q := gateBy_ok (c := c) (below := many + (60 + cell ns 1 / 8 % 131)) (most := most) (lines := many + len) (by omega) (by omega) h0 h1
        exact ⟨q.1, q.2.2⟩
    · have e : looseGates ns many most = (looseCells ns).map fun c => gateBy c (many + (looseCells ns).length) most := by unfold looseGates; rw [if_neg c]
      rw [e] at hg ⊢
      rw [List.length_map]
      obtain ⟨c, _, rfl⟩ := List.mem_map.mp hg
      have q := gateBy_ok (c := c) (below := many + (looseCells ns).length) (most := most) (lines := many + (looseCells ns).length) (by omega) (Int.le_refl _) h0 h1
      exact ⟨q.1, q.2.2⟩
  exact ⟨⟨m0, m1, loose_len h, fun g hg => (main g hg).1⟩, fun g hg => (main g hg).2⟩
theorem planBy_ok {ns : List Int} {most : Int} (hn : ns.length ≤ 63) (h0 : 0 < most) (h1 : most ≤ 60) : Valid (planBy ns most) ∧ ∀ g ∈ (planBy ns most).gates, PyData.strOk g.kind = true := by
  obtain ⟨m0, m1⟩ := manyOf_in (cell ns 0)
  unfold planBy
  split
  · exact loose_ok hn m0 m1 h0 h1
  · exact ⟨(free_ok hn h0 h1).1, (free_ok hn h0 h1).2.2⟩
section
variable {K : PySem.W.Frag} {σ : L2.St} {G : Hp} {ta tb : TE} {β : Type} {R : Hp → V → β → Prop} {bs cs : List β} {a : Addr} {ws : List V}
/-- a list that stands + one that is made on the way -/
theorem ep_catR (L : Lasts R) (ha : Ev ta σ G (.ref a)) (hl : G a = some (.lst ws)) (hR : Rows (R G) ws bs) (hb : EvP tb σ G (LstOf R G cs)) (hz : bs.length + cs.length ≤ 100000) : EvP (tOp rCat ta tb) σ G (LstOf R G (bs ++ cs)) := fun H e Q q =>
  ha H e _ fun H1 e1 => hb H1 (e.trans e1) _ fun v G' H2 g1 g2 e2 ⟨p, zs, hv, hp, hG, hR2⟩ =>
    ⟨a, p, ws, zs, rfl, hv, e2 _ _ (e1 _ _ (e _ _ hl)), g2 _ _ hG, sz_of (by rw [hR.1, hR2.1]; omega), fun pn hpn => q _ (upd G' pn (.lst (ws ++ zs))) _ (g1.trans (Ex.new (g2.none hpn))) (Ex.put g2) ((e1.trans e2).trans (Ex.new hpn))
      ⟨pn, ws ++ zs, rfl, g1.none (g2.none hpn), upd_same, rows_append (rows_imp hR fun _ _ r => L.mono _ _ _ _ (g1.trans (Ex.new (g2.none hpn))) r) (rows_imp hR2 fun _ _ r => L.mono _ _ _ _ (Ex.new (g2.none hpn)) r)⟩⟩
/-- two new lists -/
theorem el_catN {xs ys : List V} (ha : EvL ta σ G xs) (hb : EvL tb σ G ys) (hz : xs.length + ys.length ≤ 100000) : EvL (tOp rCat ta tb) σ G (xs ++ ys) := fun H e Q q =>
  ha H e _ fun p H1 hp e1 h1 => hb H1 (e.trans e1) _ fun p2 H2 hp2 e2 h2 => ⟨p, p2, xs, ys, rfl, rfl, e2 _ _ h1, h2, sz_of hz, fun pn hpn => q pn _ (e1.none (e2.none hpn)) ((e1.trans e2).trans (Ex.new hpn)) upd_same⟩
/-- (many, gates), the list of them of which is said what they are -/
theorem ep_planP {p : Plan} (h1 : Ev ta σ G (.int p.many)) (h2 : EvP tb σ G (LstOf (GateAt K) G p.gates)) : EvP (tTup (tCons ta (tCons tb tNil))) σ G fun v G' => PlanAt K G' v p := fun H e Q q =>
  h1 H e _ fun H1 e1 => h2 H1 (e.trans e1) _ fun v G' H2 g1 g2 e2 ⟨g, vs, hv, hg, hl, hR⟩ =>
    ⟨sz_of (by show 2 ≤ 100000; decide), fun a ha => q _ (upd G' a (.tup [.int p.many, v])) _ (g1.trans (Ex.new (g2.none ha))) (Ex.put g2) ((e1.trans e2).trans (Ex.new ha))
      ⟨a, g, rfl, by rw [hv]; exact st_of upd_same, vs, ex_l (Ex.new (g2.none ha)) (sq_of hl), rows_imp hR fun _ _ r => r.mono (Ex.new (g2.none ha))⟩⟩
end
section
variable {K : PySem.W.Frag} {σ : L2.St} {G : Hp} {ta : TE} {D : Ends} {tz : TS} {i : Nat} {l : Addr} {xs : List V} {x : V}
/-- x = xs.pop() -/
theorem go_pop (ha : Ev ta σ G (.ref l)) (hl : G l = some (.lst (xs ++ [x]))) (k : Go tz D (σ.set i (some x)) (upd G l (.lst xs))) : Go (tSeq (tAsg (tBM0 K "list" rPop ta) (gName i)) tz) D σ G := fun H e => ha H e _ fun H1 e1 =>
  ⟨Or.inl ⟨rfl, _, sq_of (e1 l _ (e l _ hl))⟩, l, xs ++ [x], x, rfl, rfl, e1 l _ (e l _ hl), by rw [List.length_append]; simp, by
    rw [List.dropLast_concat]
    exact k _ (Ex.put (e.trans e1))⟩
end

/-! ### who sees what -/
theorem inV_ints (i : Int) (ns : List Int) : inV (.int i) (ns.map V.int) = decide (i ∈ ns) := by
  unfold inV
  induction ns with
  | nil => rfl
  | cons n r ih =>
    rw [List.map_cons, List.any_cons, ih]
    have e : eqV (V.int n) (V.int i) = decide (n = i) := rfl
    rw [e]
    by_cases h : n = i
    · subst h; simp
    · have h' : ¬ i = n := fun h2 => h h2.symm
      simp [h, h']
theorem flat_ints (ns : List Int) : (ns.map V.int).all flatV = true := by
  rw [List.all_eq_true]
  intro v hv
  obtain ⟨i, _, rfl⟩ := List.mem_map.mp hv
  rfl
/-- a gate that has the line as a source, or one of these, and so on -/
inductive Sees (p : Plan) (l : Int) : Int → Prop
  | src {i : Nat} {g : Gate} : p.gates[i]? = some g → l ∈ g.srcs → Sees p l (p.many + i)
  | step {i : Nat} {g : Gate} {y : Int} : Sees p l y → p.gates[i]? = some g → y ∈ g.srcs → Sees p l (p.many + i)
theorem Sees.gate {p : Plan} {l x : Int} (h : Sees p l x) : ∃ (i : Nat) (g : Gate), p.gates[i]? = some g ∧ x = p.many + i := by
  cases h with
  | src h1 _ => exact ⟨_, _, h1, rfl⟩
  | step _ h1 _ => exact ⟨_, _, h1, rfl⟩
theorem Sees.range {p : Plan} {l x : Int} (h : Sees p l x) : p.many ≤ x ∧ x < p.lines := by
  obtain ⟨i, g, hg, rfl⟩ := h.gate
  have := (List.getElem?_eq_some_iff.mp hg).1
  unfold Plan.lines
  omega
open Classical in
noncomputable def seersM (p : Plan) (l : Int) : List Int := ((List.range p.lines.toNat).filter fun i : Nat => decide (Sees p l (i : Int))).map fun i : Nat => (i : Int)
/-- all gates that have y as a source are seen -/
def ClosedAt (p : Plan) (s : List Bool) (y : Int) : Prop := ∀ (i : Nat) (g : Gate), p.gates[i]? = some g → y ∈ g.srcs → s.getD (p.many + i).toNat false = true
/-- what is seen so far -/
structure SeenInv (p : Plan) (l : Int) (s : List Bool) (w : List Int) : Prop where
  len : (s.length : Int) = p.lines
  snd : ∀ x : Int, 0 ≤ x → s.getD x.toNat false = true → Sees p l x
  wt : ∀ y ∈ w, y = l ∨ Sees p l y
  cl : ∀ y : Int, (y = l ∨ (0 ≤ y ∧ s.getD y.toNat false = true)) → y ∈ w ∨ ClosedAt p s y
theorem seen_end {p : Plan} {l : Int} {s : List Bool} (m0 : 0 ≤ p.many) (h : SeenInv p l s []) : ∀ x : Int, 0 ≤ x → (s.getD x.toNat false = true ↔ Sees p l x) := by
  intro x x0
  refine ⟨h.snd x x0, fun hs => ?_⟩
  clear x0
  induction hs with
  | src hg hl =>
    rcases h.cl l (.inl rfl) with q | q
    · cases q
    · exact q _ _ hg hl
  | step hy hg hm ih =>
    rcases h.cl _ (.inr ⟨by have := hy.range; omega, ih⟩) with q | q
    · cases q
    · exact q _ _ hg hm
open Classical in
theorem seen_list {p : Plan} {l : Int} {s : List Bool} (m0 : 0 ≤ p.many) (h : SeenInv p l s []) : (((List.range p.lines.toNat).filter fun i : Nat => s.getD i false).map fun i : Nat => (i : Int)) = seersM p l := by
  unfold seersM
  congr 1
  refine List.filter_congr fun i _ => ?_
  have := seen_end m0 h (i : Int) (Int.natCast_nonneg i)
  rw [Int.toNat_natCast] at this
  by_cases c : Sees p l (i : Int)
  · rw [this.mpr c]; exact (decide_eq_true c).symm
  · have : s.getD i false = false := by
      cases e : s.getD i false
      · rfl
      · exact absurd (this.mp e) c
    rw [this]; exact (decide_eq_false c).symm
theorem falses_get (n k : Nat) : (List.replicate n false).getD k false = false := by
  rw [List.getD_eq_getElem?_getD, List.getElem?_replicate]
  split <;> rfl
theorem seen_start {p : Plan} {l : Int} (h : 0 ≤ p.lines) : SeenInv p l (List.replicate p.lines.toNat false) [l] := by
  refine ⟨by rw [List.length_replicate]; omega, fun x _ h => ?_, fun y hy => .inl (List.mem_singleton.mp hy), fun y hy => ?_⟩
  · rw [falses_get] at h; cases h
  · rcases hy with rfl | ⟨_, h⟩
    · exact .inl List.mem_cons_self
    · rw [falses_get] at h; cases h
/-! seers: one after the other -/
def seeStep (many : Int) (one : Int) : List Gate → Nat → List Bool × List Int → List Bool × List Int
  | [], _, r => r
  | g :: gs, k, r => seeStep many one gs (k + 1) (if one ∈ g.srcs ∧ r.1.getD (many + k).toNat false = false then (r.1.set (many + k).toNat true, r.2 ++ [many + k]) else r)
structure SeeOut (many one : Int) (gs : List Gate) (k : Nat) (s : List Bool) (w : List Int) (s' : List Bool) (w' : List Int) : Prop where
  len : s'.length = s.length
  cnt : w'.length + cntF s' = w.length + cntF s
  seen : ∀ x : Nat, s'.getD x false = true ↔ s.getD x false = true ∨ ∃ (i : Nat) (g : Gate), gs[i]? = some g ∧ one ∈ g.srcs ∧ (x : Int) = many + (k + i : Nat)
  old : ∀ y ∈ w, y ∈ w'
  new : ∀ y ∈ w', y ∈ w ∨ (many ≤ y ∧ s'.getD y.toNat false = true)
  got : ∀ x : Nat, s.getD x false = false → s'.getD x false = true → (x : Int) ∈ w'
theorem seeStep_out {many one : Int} (m0 : 0 ≤ many) : ∀ (gs : List Gate) (k : Nat) (s : List Bool) (w : List Int), (many + (k + gs.length : Nat) ≤ s.length) → SeeOut many one gs k s w (seeStep many one gs k (s, w)).1 (seeStep many one gs k (s, w)).2
  | [], k, s, w, _ => ⟨rfl, rfl, fun x => ⟨.inl, fun h => h.elim id fun ⟨i, g, h, _⟩ => by simp at h⟩, fun _ h => h, fun _ h => .inl h, fun x h1 h2 => by
      have h2 : s.getD x false = true := h2
      rw [h1] at h2; cases h2⟩
  | g :: gs, k, s, w, hl => by
    rw [List.length_cons] at hl
    rw [seeStep]
    by_cases c : one ∈ g.srcs ∧ s.getD (many + k).toNat false = false
    · simp only [if_pos c]
      have hlt : (many + k).toNat < s.length := by omega
      obtain ⟨a1, a2, a3, a4, a5, a6⟩ := seeStep_out m0 gs (k + 1) (s.set (many + k).toNat true) (w ++ [many + k]) (by rw [List.length_set]; omega)
      have hc := cntF_set hlt c.2
      rw [List.length_set] at a1
      refine ⟨a1, ?_, fun x => ?_, fun y hy => a4 y (List.mem_append_left _ hy), fun y hy => ?_, fun x h1 h2 => ?_⟩
      · rw [List.length_append] at a2
        simp at a2; omega
      · rw [a3 x]
        constructor
        · rintro (h | ⟨i, g', h1, h2, h3⟩)
          · rw [getD_set hlt] at h
            by_cases e : (many + k).toNat = x
            · exact .inr ⟨0, g, rfl, c.1, by omega⟩
            · rw [if_neg e] at h; exact .inl h
          · exact .inr ⟨i + 1, g', by simpa using h1, h2, by omega⟩
        · rintro (h | ⟨i, g', h1, h2, h3⟩)
          · left
            rw [getD_set hlt]
            split
            · rfl
            · exact h
          · cases i with
            | zero => left; rw [getD_set hlt, if_pos (by omega)]
            | succ i => exact .inr ⟨i, g', by simpa using h1, h2, by omega⟩
      · rcases a5 y hy with h | h
        · rcases List.mem_append.mp h with h | h
          · exact .inl h
          · rcases List.mem_singleton.mp h with rfl
            exact .inr ⟨by omega, (a3 _).mpr (.inl (by rw [getD_set hlt, if_pos rfl]))⟩
        · exact .inr h
      · by_cases e : (many + k).toNat = x
        · have : (x : Int) = many + k := by omega
          rw [this]
          exact a4 _ (List.mem_append_right _ (List.mem_singleton.mpr rfl))
        · exact a6 x (by rw [getD_set hlt, if_neg e]; exact h1) h2
    · simp only [if_neg c]
      obtain ⟨a1, a2, a3, a4, a5, a6⟩ := seeStep_out m0 gs (k + 1) s w (by omega)
      refine ⟨a1, a2, fun x => ?_, a4, a5, a6⟩
      rw [a3 x]
      constructor
      · rintro (h | ⟨i, g', h1, h2, h3⟩)
        · exact .inl h
        · exact .inr ⟨i + 1, g', by simpa using h1, h2, by omega⟩
      · rintro (h | ⟨i, g', h1, h2, h3⟩)
        · exact .inl h
        · cases i with
          | zero =>
            have : g' = g := by simpa using h1.symm
            subst this
            left
            have hx : (many + k).toNat = x := by omega
            cases e : s.getD x false with
            | true => rfl
            | false => exact absurd ⟨h2, by rw [hx]; exact e⟩ c
          | succ i => exact .inr ⟨i, g', by simpa using h1, h2, by omega⟩
/-- one is taken off the end of the waiting, and its gates are looked at -/
theorem seen_turn {p : Plan} {l one : Int} {s : List Bool} {w : List Int} (m0 : 0 ≤ p.many) (h : SeenInv p l s (w ++ [one])) :
    SeenInv p l (seeStep p.many one p.gates 0 (s, w)).1 (seeStep p.many one p.gates 0 (s, w)).2 ∧ (seeStep p.many one p.gates 0 (s, w)).2.length + cntF (seeStep p.many one p.gates 0 (s, w)).1 + 1 = (w ++ [one]).length + cntF s := by
  have hl := h.len
  obtain ⟨a1, a2, a3, a4, a5, a6⟩ := seeStep_out (one := one) m0 p.gates 0 s w (by unfold Plan.lines at hl; omega)
  generalize (seeStep p.many one p.gates 0 (s, w)).1 = s' at *
  generalize (seeStep p.many one p.gates 0 (s, w)).2 = w' at *
  have h1 : one = l ∨ Sees p l one := h.wt one (List.mem_append_right _ (List.mem_singleton.mpr rfl))
  have snd : ∀ x : Int, 0 ≤ x → s'.getD x.toNat false = true → Sees p l x := fun x x0 hx => by
    rcases (a3 _).mp hx with q | ⟨i, g, hg, hm, he⟩
    · exact h.snd x x0 q
    · have e : x = p.many + (i : Int) := by omega
      rw [e]
      rcases h1 with rfl | h1
      · exact .src hg hm
      · exact .step h1 hg hm
  refine ⟨⟨by rw [a1]; exact hl, snd, fun y hy => ?_, fun y hy => ?_⟩, by rw [List.length_append]; simp; omega⟩
  · rcases a5 y hy with q | ⟨q1, q2⟩
    · exact h.wt y (List.mem_append_left _ q)
    · exact .inr (snd y (by omega) q2)
  · have keep : ClosedAt p s y → ClosedAt p s' y := fun q i g hg hm => (a3 _).mpr (.inl (q i g hg hm))
    have one_ok : ClosedAt p s' one := fun i g hg hm => (a3 _).mpr (.inr ⟨i, g, hg, hm, by omega⟩)
    have main : (y = l ∨ (0 ≤ y ∧ s.getD y.toNat false = true)) → y ∈ w' ∨ ClosedAt p s' y := fun hy => by
      rcases h.cl y hy with q | q
      · rcases List.mem_append.mp q with q | q
        · exact .inl (a4 y q)
        · rcases List.mem_singleton.mp q with rfl
          exact .inr one_ok
      · exact .inr (keep q)
    rcases hy with hy | ⟨y0, hy⟩
    · exact main (.inl hy)
    · cases e : s.getD y.toNat false with
      | true => exact main (.inr ⟨y0, e⟩)
      | false =>
        left
        have := a6 y.toNat e hy
        rw [Int.toNat_of_nonneg y0] at this
        exact this
/-! the law's way: round by round -/
theorem seen_round {p : Plan} {l : Int} {s : List Bool} {news fresh : List Int} (m0 : 0 ≤ p.many) (h : SeenInv p l s news)
    (hf : ∀ x : Int, x ∈ fresh ↔ ∃ (i : Nat) (g : Gate), p.gates[i]? = some g ∧ x = p.many + i ∧ s.getD x.toNat false = false ∧ ∃ y ∈ g.srcs, y ∈ news) : SeenInv p l (doneBy s fresh) fresh := by
  have hl := h.len
  have fpos : ∀ x ∈ fresh, 0 ≤ x := fun x hx => by
    obtain ⟨i, g, _, rfl, _⟩ := (hf x).mp hx
    omega
  have dget : ∀ (ls : List Int) (d : List Bool) (k : Nat), (d.getD k false = true → (doneBy d ls).getD k false = true) := fun ls => by
    induction ls with
    | nil => intro d k h; exact h
    | cons x r ih =>
      intro d k hk
      refine ih _ k ?_
      by_cases e : x.toNat = k
      · subst e
        rw [getD_set_eq]
        by_cases c : x.toNat < d.length
        · exact c
        · rw [List.getD_eq_getElem?_getD, List.getElem?_eq_none (by omega)] at hk; cases hk
      · rw [getD_set_ne e]; exact hk
  have dgot : ∀ (ls : List Int) (d : List Bool) (x : Int), x ∈ ls → x.toNat < d.length → (doneBy d ls).getD x.toNat false = true := fun ls => by
    induction ls with
    | nil => intro d x hx; cases hx
    | cons y r ih =>
      intro d x hx hlt
      rcases List.mem_cons.mp hx with rfl | hx
      · exact dget r _ _ (getD_set_eq hlt)
      · exact ih _ x hx (by rw [List.length_set]; exact hlt)
  have sees : ∀ x ∈ fresh, Sees p l x := fun x hx => by
    obtain ⟨i, g, hg, rfl, _, y, hy, hn⟩ := (hf x).mp hx
    rcases h.wt y hn with rfl | q
    · exact .src hg hy
    · exact .step q hg hy
  refine ⟨by rw [doneBy_len]; exact hl, fun x x0 hx => ?_, fun y hy => .inr (sees y hy), fun y hy => ?_⟩
  · rcases doneBy_get (p := p) x0 fresh s fpos hx with q | q
    · exact h.snd x x0 q
    · exact sees x q
  · have keep : ClosedAt p s y → ClosedAt p (doneBy s fresh) y := fun q i g hg hm => dget _ _ _ (q i g hg hm)
    have main : (y = l ∨ (0 ≤ y ∧ s.getD y.toNat false = true)) → y ∈ fresh ∨ ClosedAt p (doneBy s fresh) y := fun hy => by
      rcases h.cl y hy with q | q
      · refine .inr fun i g hg hm => ?_
        cases e : s.getD (p.many + (i : Int)).toNat false with
        | true => exact dget _ _ _ e
        | false =>
          refine dgot _ _ _ ((hf _).mpr ⟨i, g, hg, rfl, e, y, hm, q⟩) ?_
          have := (List.getElem?_eq_some_iff.mp hg).1
          unfold Plan.lines at hl
          omega
      · exact .inr (keep q)
    rcases hy with hy | ⟨y0, hy⟩
    · exact main (.inl hy)
    · rcases doneBy_get (p := p) y0 fresh s fpos hy with q | q
      · exact main (.inr ⟨y0, q⟩)
      · exact .inl q
theorem cntF_doneBy : ∀ (ls : List Int) (d : List Bool), (∀ x ∈ ls, 0 ≤ x ∧ x.toNat < d.length ∧ d.getD x.toNat false = false) → ls.Nodup → cntF (doneBy d ls) + ls.length = cntF d
  | [], d, _, _ => rfl
  | x :: r, d, h, nd => by
    obtain ⟨h0, h1, h2⟩ := h x List.mem_cons_self
    obtain ⟨n1, n2⟩ := List.nodup_cons.mp nd
    have ih := cntF_doneBy r (d.set x.toNat true) (fun y hy => by
      obtain ⟨k0, k1, k2⟩ := h y (List.mem_cons_of_mem _ hy)
      refine ⟨k0, by rw [List.length_set]; exact k1, ?_⟩
      rw [getD_set_ne]
      · exact k2
      · intro e
        exact n1 (by rw [show x = y by omega]; exact hy)) n2
    have := cntF_set h1 h2
    show cntF (doneBy (d.set x.toNat true) r) + (r.length + 1) = _
    omega
def freshC (p : Plan) (s : List Bool) (news : List Int) (i : Nat) : Bool := !(s.getD (p.many + (i : Int)).toNat false) && (((p.gates.getD i ⟨"", [], 0⟩).srcs).map fun y => decide (y ∈ news)).any id
def freshN (p : Plan) (s : List Bool) (news : List Int) (n : Nat) : List Int := ((List.range n).filter (freshC p s news)).map fun i : Nat => p.many + (i : Int)
theorem freshN_succ (p : Plan) (s : List Bool) (news : List Int) (n : Nat) : freshN p s news (n + 1) = if freshC p s news n = true then freshN p s news n ++ [p.many + (n : Int)] else freshN p s news n := by
  unfold freshN
  rw [List.range_succ, List.filter_append, List.map_append]
  by_cases c : freshC p s news n = true
  · rw [if_pos c]; simp [c]
  · rw [if_neg c]; simp [c]
theorem freshN_len (p : Plan) (s : List Bool) (news : List Int) (n : Nat) : (freshN p s news n).length ≤ n := by
  unfold freshN
  rw [List.length_map]
  have := List.length_filter_le (freshC p s news) (List.range n)
  rw [List.length_range] at this
  exact this
theorem mem_freshN {p : Plan} {s : List Bool} {news : List Int} {x : Int} : x ∈ freshN p s news p.gates.length ↔ ∃ (i : Nat) (g : Gate), p.gates[i]? = some g ∧ x = p.many + i ∧ s.getD x.toNat false = false ∧ ∃ y ∈ g.srcs, y ∈ news := by
  unfold freshN
  rw [List.mem_map]
  constructor
  · rintro ⟨i, hi, rfl⟩
    obtain ⟨h1, h2⟩ := List.mem_filter.mp hi
    have hl := List.mem_range.mp h1
    unfold freshC at h2
    rw [List.getD_eq_getElem?_getD (l := p.gates), List.getElem?_eq_getElem hl] at h2
    simp only [Option.getD_some, Bool.and_eq_true, Bool.not_eq_true', List.any_map, List.any_eq_true] at h2
    obtain ⟨h3, y, h4, h5⟩ := h2
    exact ⟨i, _, List.getElem?_eq_getElem hl, rfl, h3, y, h4, by simpa using h5⟩
  · rintro ⟨i, g, hg, rfl, hs, y, hy, hn⟩
    have hl := (List.getElem?_eq_some_iff.mp hg).1
    refine ⟨i, List.mem_filter.mpr ⟨List.mem_range.mpr hl, ?_⟩, rfl⟩
    unfold freshC
    rw [List.getD_eq_getElem?_getD (l := p.gates), hg, hs]
    simp only [Option.getD_some, Bool.not_false, Bool.true_and, List.any_map, List.any_eq_true]
    exact ⟨y, hy, by simpa using hn⟩
theorem freshN_nodup (p : Plan) (s : List Bool) (news : List Int) (n : Nat) : (freshN p s news n).Nodup := by
  unfold freshN
  have h : ((List.range n).filter (freshC p s news)).Nodup := List.Nodup.sublist List.filter_sublist List.nodup_range
  exact h.map (fun i : Nat => p.many + (i : Int)) fun a b hne he => hne (by omega)
/-- a round: what is seen then, and that it comes to an end -/
theorem fresh_turn {p : Plan} {l : Int} {s : List Bool} {news : List Int} (m0 : 0 ≤ p.many) (h : SeenInv p l s news) :
    SeenInv p l (doneBy s (freshN p s news p.gates.length)) (freshN p s news p.gates.length) ∧ cntF (doneBy s (freshN p s news p.gates.length)) + (freshN p s news p.gates.length).length = cntF s := by
  refine ⟨seen_round m0 h fun x => mem_freshN, cntF_doneBy _ _ (fun x hx => ?_) (freshN_nodup _ _ _ _)⟩
  obtain ⟨i, g, hg, rfl, hs, _⟩ := mem_freshN.mp hx
  have := (List.getElem?_eq_some_iff.mp hg).1
  have hl := h.len
  unfold Plan.lines at hl
  exact ⟨by omega, by omega, hs⟩

/-! ### words, several clauses -/
section
variable {K : PySem.W.Frag} {σ : L2.St} {G H : Hp} {ta tb te : TE} {tl th : TO} {tA : TA} {D : Ends} {W : WX} {ts : Addr → Value → Option Addr → TS} {r : List (Value × (Addr → Value → Option Addr → TS))} {c cls : Value} {d : Option Addr} {z y : Str} {lo hi : Option Int} {xs ys : List V} {l : Addr} {β : Type} {R : Hp → V → β → Prop} {bs : List β}
theorem wm_hit (h : PySem.W.exmOne K cls c = some true) (e : Ex G H) (k : ∀ a, G a = none → Go (ts a cls d) D σ G) : wMany K W D ((c, ts) :: r) cls d σ H :=
  ⟨true, h, fun _ a ha => k a (e.none ha) H e, fun z => (by cases z)⟩
theorem wm_miss (h : PySem.W.exmOne K cls c = some false) (k : wMany K W D r cls d σ H) : wMany K W D ((c, ts) :: r) cls d σ H := ⟨false, h, fun z => (by cases z), fun _ => k⟩
theorem ev_slX (h : Ev te σ G (.str z)) (h1 : EvO tl σ G lo) (h2 : EvO th σ G hi) (hz : z.length ≤ 100000) : Ev (tSl C8.rSlX te tl th) σ G (.str (Txt.slice z lo hi)) := fun H1 e Q q =>
  h H1 e _ fun H2 e2 => h1 H2 (e.trans e2) _ fun H3 e3 => h2 H3 ((e.trans e2).trans e3) _ fun H4 e4 => ⟨z, rfl, sz_of hz, q H4 ((e2.trans e3).trans e4)⟩
theorem slice_len (z : Str) (lo hi : Option Int) : (Txt.slice z lo hi).length ≤ z.length := by rw [← C8.cutS_slice]; exact cutS_length z lo hi
theorem ev_addZ (h : Ev ta σ G (.str z)) (h2 : Ev tb σ G (.str y)) (hz : z.length + y.length ≤ 100000) : Ev (tOp rAddZ ta tb) σ G (.str (z ++ y)) := fun H1 e Q q =>
  h H1 e _ fun H2 e2 => h2 H2 (e.trans e2) _ fun H3 e3 => ⟨z, y, rfl, rfl, sz_of hz, q H3 (e2.trans e3)⟩
theorem ev_lenZ (h : Ev ta σ G (.str z)) (hz : z.length ≤ 100000) : Ev (tCB rLenZ (tCons ta tNil)) σ G (.int z.length) := fun H1 e Q q => h H1 e _ fun H2 e2 => ⟨z, rfl, sz_of hz, q H2 e2⟩
theorem el_catV (ha : Ev ta σ G (.ref l)) (hl : G l = some (.lst xs)) (hb : EvL tb σ G ys) (hz : xs.length + ys.length ≤ 100000) : EvL (tOp rCat ta tb) σ G (xs ++ ys) := fun H e Q q =>
  ha H e _ fun H1 e1 => hb H1 (e.trans e1) _ fun p2 H2 hp2 e2 h2 => ⟨l, p2, xs, ys, rfl, rfl, e2 _ _ (e1 _ _ (e _ _ hl)), h2, sz_of hz, fun pn hpn => q pn _ (e1.none (e2.none hpn)) ((e1.trans e2).trans (Ex.new hpn)) upd_same⟩
/-- an item of a list that is made on the way -/
theorem ep_ixL {b : β} {k : Nat} (h : EvP ta σ G (LstOf R G bs)) (h2 : Ev tb σ G (.int (k : Int))) (hb : bs[k]? = some b) : EvP (tOp (rIxL K) ta tb) σ G fun v G' => R G' v b := fun H e Q q =>
  h H e _ fun v G' H1 g1 g2 e1 ⟨p, ws, hv, _, hl, hR⟩ => (h2.mono g1) H1 g2 _ fun H2 e2 => by
    have hk : k < ws.length := by rw [hR.1]; exact (List.getElem?_eq_some_iff.mp hb).1
    exact ⟨p, ws, k, ws[k], hv, rfl, sq_of (e2 _ _ (g2 _ _ hl)), atI_nat (List.getElem?_eq_getElem hk), q _ G' H2 g1 (g2.trans e2) (e1.trans e2) (hR.2 k _ _ (List.getElem?_eq_getElem hk) hb)⟩
end
/-! pairs written out -/
def tPairs : List (Int × Int) → TA
  | [] => tNil
  | p :: r => tCons (tTup (tCons (tC (.int p.1)) (tCons (tC (.int p.2)) tNil))) (tPairs r)
def PairAt (K : PySem.W.Frag) (G : Hp) (v : V) (p : Int × Int) : Prop := ∃ a, v = .ref a ∧ SqT K G a [.int p.1, .int p.2]
theorem PairAt.mono {K : PySem.W.Frag} {G G' : Hp} {v : V} {p : Int × Int} (e : Ex G G') (h : PairAt K G v p) : PairAt K G' v p := by
  obtain ⟨a, rfl, h⟩ := h
  exact ⟨a, rfl, ex_t e h⟩
theorem eap_pairs {K : PySem.W.Frag} {σ : L2.St} : ∀ (ps : List (Int × Int)) {G : Hp}, EvAP (tPairs ps) σ G fun vs G' => Rows (PairAt K G') vs ps
  | [], G => fun H e Q q => q [] G H (Ex.refl _) e (Ex.refl _) rows_nil
  | p :: r, G => by
    intro H e Q q
    show tTup (tCons (tC (.int p.1)) (tCons (tC (.int p.2)) tNil)) σ H fun v H1 => tPairs r σ H1 fun vs H2 => Q (v :: vs) H2
    refine ep_U (eu_tup (ta := tCons (tC (.int p.1)) (tCons (tC (.int p.2)) tNil)) (ea_cons ev_c (ea_cons ev_c ea_nil)) (by show 2 ≤ 100000; decide)) H e _ fun v G1 H1 g1 g2 e1 hv => ?_
    obtain ⟨a, hv, ha, hG⟩ := hv
    refine eap_pairs (K := K) r H1 g2 _ fun vs G2 H2 k1 k2 e2 hR => ?_
    refine q (v :: vs) G2 H2 (g1.trans k1) k2 (e1.trans e2) ⟨by simp [hR.1], fun i x y hx hy => ?_⟩
    cases i with
    | zero =>
      simp at hx hy
      subst hx hy
      exact ⟨a, hv, ex_t k1 (st_of (by rw [hG]; exact upd_same))⟩
    | succ i => exact hR.2 i x y (by simpa using hx) (by simpa using hy)
theorem ep_pairs {K : PySem.W.Frag} {σ : L2.St} {G : Hp} (ps : List (Int × Int)) (hz : ps.length ≤ 100000) : EvP (tLst (tPairs ps)) σ G (LstOf (PairAt K) G ps) :=
  ep_lst (eap_pairs ps) (fun vs G' h => by rw [h.1]; exact hz) fun vs G' p e h hp => ⟨p, vs, rfl, e.none hp, upd_same, rows_imp h fun _ _ r => r.mono (Ex.new hp)⟩
/-! the values drawn -/
def truthsM (c n : Int) : List Bool := (List.range n.toNat).map fun k : Nat => decide (mixed c k 2 = 1)
theorem truthsM_len {c n : Int} (h : 0 ≤ n) : ((truthsM c n).length : Int) = n := by unfold truthsM; simp; omega
/-! k02's words -/
def some21 : List Str := kinds9 ++ (["", "Yes", "and", "or", "keeps", " not", "both ", "NO", "mos", "kind", "in", "by"] : List Str)
theorem some21_len {k : Nat} (h : k < 21) : (some21.getD k "").length ≤ 10 := by
  have h2 : ∀ j : Fin 21, (some21.getD j.1 "").length ≤ 10 := by decide +kernel
  exact h2 ⟨k, h⟩
theorem some9_pos {k : Nat} (h : k < 9) : 0 < (some21.getD k "").length := by
  have h2 : ∀ j : Fin 9, 0 < (some21.getD j.1 "").length := by decide +kernel
  exact h2 ⟨k, h⟩
def pairs9 : List (Int × Int) := [(0, 0), (0, 0), (1, 1), (1, 1), (2, 9), (2, 9), (2, 9), (3, 3), (3, 3)]
theorem pairs9_ok {k : Nat} (h : k < 9) : ∃ b, pairs9[k]? = some b ∧ wantsM (kinds9.getD k "") = .ok b := by
  have hk : k = 0 ∨ k = 1 ∨ k = 2 ∨ k = 3 ∨ k = 4 ∨ k = 5 ∨ k = 6 ∨ k = 7 ∨ k = 8 := by omega
  rcases hk with rfl | rfl | rfl | rfl | rfl | rfl | rfl | rfl | rfl <;> exact ⟨_, rfl, rfl⟩
theorem wants_none {z : Str} (h : ∀ k, k < 9 → z ≠ kinds9.getD k "") : wantsM z = .error .kind := by
  have hn : least z = none := by
    have h0 : z ≠ "yes" := h 0 (by decide)
    have h1 : z ≠ "no" := h 1 (by decide)
    have h2 : z ≠ "keep" := h 2 (by decide)
    have h3 : z ≠ "not" := h 3 (by decide)
    have h4 : z ≠ "both" := h 4 (by decide)
    have h5 : z ≠ "either" := h 5 (by decide)
    have h6 : z ≠ "unlike" := h 6 (by decide)
    have h7 : z ≠ "pick" := h 7 (by decide)
    have h8 : z ≠ "most" := h 8 (by decide)
    unfold least
    rw [if_neg h0, if_neg h1, if_neg h2, if_neg h3, if_neg h4, if_neg h5, if_neg h6, if_neg h7, if_neg h8]
  unfold wantsM
  rw [hn]
theorem answer_errs {z : Str} {bs : List Bool} {e : Err} (h : answerM z bs = .error e) : e = .kind ∨ e = .sources := by
  unfold answerM wantsM at h
  cases c : least z with
  | none => rw [c] at h; cases h; exact .inl rfl
  | some i =>
    rw [c] at h
    by_cases d : i ≤ bs.length ∧ (bs.length : Int) ≤ (if i = 2 then 9 else i)
    · simp only [if_pos d] at h; cases h
    · simp only [if_neg d] at h; cases h; exact .inr rfl

/-! ### settled -/
def bitsOf (vs : List Bool) (ss : List Int) : List Bool := ss.map fun s => vs.getD s.toNat false
def gateV (g : Gate) (vs : List Bool) : Bool := answerV g.kind (bitsOf vs g.srcs)
theorem answer_gate {g : Gate} {lines : Int} (h : errGate g lines = none) (vs : List Bool) : answerM g.kind (bitsOf vs g.srcs) = .ok (gateV g vs) := by
  obtain ⟨⟨lo, hi, hw, hlo, hhi⟩, _⟩ := gate_ok h
  have hl : (bitsOf vs g.srcs).length = g.srcs.length := List.length_map _
  unfold answerM
  rw [hw]
  simp only [hl]
  rw [if_pos ⟨hlo, hhi⟩]
  rfl
theorem gate_short {g : Gate} {lines : Int} (h : errGate g lines = none) : g.srcs.length ≤ 9 := by
  obtain ⟨⟨lo, hi, hw, hlo, hhi⟩, _⟩ := gate_ok h
  have := wants_le hw
  omega
theorem gateN_get {p : Plan} {l : Int} (h0 : p.many ≤ l) (h1 : l < p.lines) : p.gates[(l - p.many).toNat]? = some (gateN p l) ∧ gateN p l ∈ p.gates := by
  have hj : (l - p.many).toNat < p.gates.length := by unfold Plan.lines at h1; omega
  have e : gateN p l = p.gates[(l - p.many).toNat] := by
    unfold gateN
    rw [List.getD_eq_getElem?_getD, List.getElem?_eq_getElem hj]; rfl
  rw [e]
  exact ⟨List.getElem?_eq_getElem hj, List.getElem_mem hj⟩
/-- a value is told for each line in a plan's order, of its sources' -/
def foldSet {α : Type} (F : List α → Int → α) (f : List Int) (ts : List α) : List α := f.foldl (fun ts l => ts.set l.toNat (F ts l)) ts
theorem foldSet_snoc {α : Type} (F : List α → Int → α) (f : List Int) (l : Int) (ts : List α) : foldSet F (f ++ [l]) ts = (foldSet F f ts).set l.toNat (F (foldSet F f ts) l) := by
  unfold foldSet; rw [List.foldl_append]; rfl
theorem foldSet_len {α : Type} (F : List α → Int → α) : ∀ (f : List Int) (ts : List α), (foldSet F f ts).length = ts.length
  | [], _ => rfl
  | l :: r, ts => (foldSet_len F r _).trans List.length_set
theorem foldSet_keep {α : Type} (F : List α → Int → α) (d : α) (k : Nat) : ∀ (f : List Int) (ts : List α), (∀ l ∈ f, l.toNat ≠ k) → (foldSet F f ts).getD k d = ts.getD k d
  | [], _, _ => rfl
  | l :: r, ts, h => (foldSet_keep F d k r _ fun x hx => h x (List.mem_cons_of_mem _ hx)).trans (getD_set_ne (h l List.mem_cons_self))
theorem fold_law {α : Type} (d : α) {p : Plan} {f : List Int} (h : orderM p = .ok f) (F : List α → Int → α) (hF : ∀ ts ts' l, (∀ s ∈ (gateN p l).srcs, ts.getD s.toNat d = ts'.getD s.toNat d) → F ts l = F ts' l) {ts0 : List α} (hl0 : ts0.length = p.lines.toNat) :
    (∀ l : Int, 0 ≤ l → l < p.many → (foldSet F f ts0).getD l.toNat d = ts0.getD l.toNat d) ∧ ∀ l : Int, p.many ≤ l → l < p.lines → (foldSet F f ts0).getD l.toNat d = F (foldSet F f ts0) l := by
  obtain ⟨v, _, _⟩ := order_ok h
  obtain ⟨nd, hm⟩ := order_mem h
  have m0 := v.m0
  have pos : ∀ x ∈ f, 0 ≤ x := fun x hx => by have := ((hm x).mp hx).1; omega
  refine ⟨fun l l0 l1 => foldSet_keep F d _ f _ fun x hx => by have := ((hm x).mp hx).1; omega, fun l l0 l1 => ?_⟩
  obtain ⟨i, hi, hil⟩ := List.getElem_of_mem ((hm l).mpr ⟨l0, l1⟩)
  have hl : f[i]? = some l := by rw [List.getElem?_eq_getElem hi, hil]
  have hsp : f = f.take i ++ l :: f.drop (i + 1) := by
    have : f.drop i = l :: f.drop (i + 1) := by rw [List.drop_eq_getElem_cons hi, hil]
    rw [← this, List.take_append_drop]
  have nd2 := nd
  rw [hsp, List.nodup_append] at nd2
  obtain ⟨_, nd3, nd4⟩ := nd2
  obtain ⟨nd5, _⟩ := List.nodup_cons.mp nd3
  have e1 : foldSet F f ts0 = foldSet F (f.drop (i + 1)) ((foldSet F (f.take i) ts0).set l.toNat (F (foldSet F (f.take i) ts0) l)) := by
    conv => lhs; rw [hsp]
    unfold foldSet
    rw [List.foldl_append, List.foldl_cons]
  have restd : ∀ x ∈ f.drop (i + 1), 0 ≤ x := fun x hx => pos x (List.mem_of_mem_drop hx)
  have k1 : (foldSet F f ts0).getD l.toNat d = F (foldSet F (f.take i) ts0) l := by
    rw [e1, foldSet_keep F d _ _ _ fun x hx hxe => nd5 (by have := restd x hx; rw [show l = x by omega]; exact hx), getD_set_eq]
    rw [foldSet_len, hl0]; omega
  rw [k1]
  refine hF _ _ _ fun s hs => ?_
  obtain ⟨s0, s1, hd⟩ := order_srcs h hl s hs
  have ns : ∀ x ∈ l :: f.drop (i + 1), x.toNat ≠ s.toNat := fun x hx hxe => by
    have x0 : 0 ≤ x := by
      rcases List.mem_cons.mp hx with rfl | hx
      · omega
      · exact restd x hx
    rcases hd with hd | hd
    · have : p.many ≤ x := by
        rcases List.mem_cons.mp hx with rfl | hx
        · omega
        · exact ((hm x).mp (List.mem_of_mem_drop hx)).1
      omega
    · exact nd4 s hd x hx (by omega)
  rw [e1, foldSet_keep F d _ _ _ fun x hx => ns x (List.mem_cons_of_mem _ hx), getD_set_ne (ns l List.mem_cons_self)]
/-- what is told so is the only one -/
theorem fold_unique {α : Type} (d : α) {p : Plan} {f : List Int} (h : orderM p = .ok f) (F : List α → Int → α) (hF : ∀ ts ts' l, (∀ s ∈ (gateN p l).srcs, ts.getD s.toNat d = ts'.getD s.toNat d) → F ts l = F ts' l) {ts ws : List α}
    (hl1 : (ts.length : Int) = p.lines) (hl2 : (ws.length : Int) = p.lines) (hi : ∀ l : Int, 0 ≤ l → l < p.many → ts.getD l.toNat d = ws.getD l.toNat d)
    (h1 : ∀ l : Int, p.many ≤ l → l < p.lines → ts.getD l.toNat d = F ts l) (h2 : ∀ l : Int, p.many ≤ l → l < p.lines → ws.getD l.toNat d = F ws l) : ts = ws := by
  obtain ⟨nd, hm⟩ := order_mem h
  obtain ⟨v, _, _⟩ := order_ok h
  have m0 := v.m0
  have main : ∀ n (i : Nat) (l : Int), i < n → f[i]? = some l → ts.getD l.toNat d = ws.getD l.toNat d := by
    intro n
    induction n with
    | zero => intro i l hi; omega
    | succ n ih =>
      intro i l hi2 hl
      obtain ⟨a, b⟩ := (hm l).mp (List.mem_of_getElem? hl)
      rw [h1 l a b, h2 l a b]
      refine hF _ _ _ fun s hs => ?_
      obtain ⟨s0, s1, hd⟩ := order_srcs h hl s hs
      rcases hd with hd | hd
      · exact hi s s0 hd
      · obtain ⟨k, hk, hke⟩ := List.getElem_of_mem hd
        rw [List.length_take] at hk
        refine ih k s (by omega) ?_
        rw [List.getElem_take] at hke
        rw [List.getElem?_eq_getElem (by omega), hke]
  refine List.ext_getElem? fun k => ?_
  by_cases c : k < ts.length
  · have e : ts.getD k d = ws.getD k d := by
      by_cases c2 : (k : Int) < p.many
      · have := hi (k : Int) (by omega) c2
        rw [Int.toNat_natCast] at this; exact this
      · obtain ⟨i, hi3, hie⟩ := List.getElem_of_mem ((hm (k : Int)).mpr ⟨by omega, by omega⟩)
        have := main (i + 1) i (k : Int) (by omega) (by rw [List.getElem?_eq_getElem hi3, hie])
        rw [Int.toNat_natCast] at this; exact this
    rw [List.getD_eq_getElem?_getD, List.getD_eq_getElem?_getD, List.getElem?_eq_getElem c, List.getElem?_eq_getElem (by omega)] at e
    rw [List.getElem?_eq_getElem c, List.getElem?_eq_getElem (by omega)]
    exact congrArg some e
  · rw [List.getElem?_eq_none (by omega), List.getElem?_eq_none (by omega)]
/-! settled -/
def ansF (p : Plan) (vs : List Bool) (l : Int) : Bool := gateV (gateN p l) vs
theorem ansF_local (p : Plan) (ts ts' : List Bool) (l : Int) (h : ∀ s ∈ (gateN p l).srcs, ts.getD s.toNat false = ts'.getD s.toNat false) : ansF p ts l = ansF p ts' l := by
  unfold ansF gateV bitsOf
  rw [List.map_congr_left h]
def settleBy (p : Plan) (ins : List Bool) (f : List Int) : List Bool := foldSet (ansF p) f (ins ++ List.replicate p.gates.length false)
def settledR (p : Plan) (ins : List Bool) : Except Err (List Bool) := match errPlan p with
  | some e => .error e
  | none => if (ins.length : Int) ≠ p.many then .error .values else match orderM p with
    | .error e => .error e
    | .ok f => .ok (settleBy p ins f)
/-- a list of values of which each gate is answered -/
structure Solves (p : Plan) (ins vs : List Bool) : Prop where
  len : (vs.length : Int) = p.lines
  ins : ∀ l : Int, 0 ≤ l → l < p.many → vs.getD l.toNat false = ins.getD l.toNat false
  gat : ∀ l : Int, p.many ≤ l → l < p.lines → vs.getD l.toNat false = ansF p vs l
theorem settle_solves {p : Plan} {ins : List Bool} {f : List Int} (h : orderM p = .ok f) (hi : (ins.length : Int) = p.many) : Solves p ins (settleBy p ins f) := by
  have hl : (ins ++ List.replicate p.gates.length false).length = p.lines.toNat := by
    rw [List.length_append, List.length_replicate]; unfold Plan.lines; omega
  obtain ⟨v, _, _⟩ := order_ok h
  have m0 := v.m0
  obtain ⟨h1, h2⟩ := fold_law false h (ansF p) (ansF_local p) hl
  refine ⟨by unfold settleBy; rw [foldSet_len, hl]; unfold Plan.lines; omega, fun l l0 l1 => ?_, h2⟩
  unfold settleBy
  rw [h1 l l0 l1, List.getD_eq_getElem?_getD, List.getD_eq_getElem?_getD, List.getElem?_append_left (by omega)]
theorem solves_unique {p : Plan} {ins vs ws : List Bool} {f : List Int} (h : orderM p = .ok f) (h1 : Solves p ins vs) (h2 : Solves p ins ws) : vs = ws :=
  fold_unique false h (ansF p) (ansF_local p) h1.len h2.len (fun l l0 l1 => (h1.ins l l0 l1).trans (h2.ins l l0 l1).symm) h1.gat h2.gat
theorem settled_ok {p : Plan} {ins : List Bool} {f : List Int} (h : orderM p = .ok f) (hi : (ins.length : Int) = p.many) : settledR p ins = .ok (settleBy p ins f) := by
  obtain ⟨v, _, _⟩ := order_ok h
  unfold settledR
  rw [valid_iff.mpr v]
  simp only [hi, ne_eq, not_true_eq_false, if_false, h]
section
variable {K : PySem.W.Frag} {σ : L2.St} {G : Hp} {ta tb te tl : TE} {v : V} {xs : List V} {i j : Nat} {a s : Addr}
/-- [values[source] for source in sources] -/
theorem el_bits {vs : List Bool} {ss : List Int} (h : Ev tl σ G (.ref s)) (hs : SqT K G s (ss.map V.int)) (hz : ss.length ≤ 40000) (hv : SqL K G a (vs.map V.bl)) (hi : ∀ x, ((wipe σ [j]).set j (some x))[i]? = some (some (.ref a))) (hj : ∀ x, ((wipe σ [j]).set j (some x))[j]? = some (some x))
    (hw : ∀ x, wipe ((wipe σ [j]).set j (some x)) [j] = wipe σ [j]) (hr : ∀ x ∈ ss, 0 ≤ x ∧ x < vs.length) : EvL (tLc (iTup K tl) (gName j) tYes (tOp (rIxL K) (tVar i) (tVar j)) [j]) σ G ((bitsOf vs ss).map V.bl) := by
  unfold bitsOf
  rw [List.map_map]
  exact el_lcTA ss V.int _ h hs hz hw fun x hx => ev_op (ev_var (hi _)) (ev_var (hj _)) (rv_ixL hv (at_map V.bl vs false (hr x hx).1 (hr x hx).2))
theorem eap_VL (h : Ev ta σ G v) (h2 : EvL tb σ G xs) : EvAP (tCons ta (tCons tb tNil)) σ G fun vs G' => ∃ q, vs = [v, .ref q] ∧ G' q = some (.lst xs) := fun H e Q q =>
  h H e _ fun H1 e1 => h2 H1 (e.trans e1) _ fun p2 H2 _ e2 k2 => q [v, .ref p2] H2 H2 ((e.trans e1).trans e2) (Ex.refl _) (e1.trans e2) ⟨p2, rfl, k2⟩
end

/-! ### stepped -/
def pastOf (begin : List Bool) (states : List (List Bool)) (d : Int) : List Bool := if (states.length : Int) - d ≥ 0 then states.getD ((states.length : Int) - d).toNat [] else begin
def stateAt (p : Plan) (begin : List Bool) (states : List (List Bool)) (row : List Bool) : List Bool := row ++ p.gates.map fun g => gateV g (pastOf begin states g.delay)
def stepM (p : Plan) (begin : List Bool) (rows : List (List Bool)) : List (List Bool) := rows.foldl (fun states row => states ++ [stateAt p begin states row]) []
def steppedR (p : Plan) (begin : List Bool) (rows : List (List Bool)) : Except Err (List (List Bool)) := match errPlan p with
  | some e => .error e
  | none => if (begin.length : Int) ≠ p.lines then .error .values else if (rows.all fun r => decide ((r.length : Int) = p.many)) = false then .error .values else .ok (stepM p begin rows)
theorem stepM_snoc (p : Plan) (begin : List Bool) (rows : List (List Bool)) (row : List Bool) : stepM p begin (rows ++ [row]) = stepM p begin rows ++ [stateAt p begin (stepM p begin rows) row] := by
  unfold stepM; rw [List.foldl_append]; rfl
theorem stepM_len (p : Plan) (begin : List Bool) : ∀ n (rows : List (List Bool)), rows.length = n → (stepM p begin rows).length = n := fun n => by
  induction n with
  | zero => intro rows h; rw [List.length_eq_zero_iff.mp h]; rfl
  | succ n ih =>
    intro rows h
    have hne : rows ≠ [] := by rintro rfl; simp at h
    rw [← List.dropLast_concat_getLast hne, stepM_snoc, List.length_append, ih _ (by rw [List.length_dropLast]; omega)]
    rfl
theorem stepM_get (p : Plan) (begin : List Bool) : ∀ n (rows : List (List Bool)), rows.length = n → ∀ (t : Nat) (r : List Bool), rows[t]? = some r → (stepM p begin rows)[t]? = some (stateAt p begin ((stepM p begin rows).take t) r) := fun n => by
  induction n with
  | zero => intro rows h t r hr; rw [List.length_eq_zero_iff.mp h] at hr; simp at hr
  | succ n ih =>
    intro rows h t r hr
    have hne : rows ≠ [] := by rintro rfl; simp at h
    have hd := List.dropLast_concat_getLast hne
    have hl : rows.dropLast.length = n := by rw [List.length_dropLast]; omega
    have hl2 := stepM_len p begin n _ hl
    rw [← hd, stepM_snoc]
    by_cases c : t < n
    · rw [List.getElem?_append_left (by rw [hl2]; exact c), List.take_append_of_le_length (by rw [hl2]; omega)]
      refine ih _ hl t r ?_
      rw [← hd, List.getElem?_append_left (by rw [hl]; exact c)] at hr
      exact hr
    · have ht : t < rows.length := (List.getElem?_eq_some_iff.mp hr).1
      have e : t = n := by omega
      subst e
      rw [List.getElem?_append_right (by rw [hl2]; exact Nat.le_refl _), hl2, Nat.sub_self, List.take_append_of_le_length (by rw [hl2]; exact Nat.le_refl _), List.take_of_length_le (by rw [hl2]; exact Nat.le_refl _)]
      rw [← hd, List.getElem?_append_right (by rw [hl]; exact Nat.le_refl _), hl, Nat.sub_self] at hr
      have : rows.getLast hne = r := by simpa using hr
      rw [this]; rfl
theorem stateAt_len (p : Plan) (begin : List Bool) (states : List (List Bool)) {row : List Bool} (h : (row.length : Int) = p.many) : ((stateAt p begin states row).length : Int) = p.lines := by
  unfold stateAt Plan.lines
  rw [List.length_append, List.length_map]; omega
theorem stepM_rows {p : Plan} {begin : List Bool} {rows : List (List Bool)} (h : ∀ r ∈ rows, (r.length : Int) = p.many) : ∀ st ∈ stepM p begin rows, ((st.length : Nat) : Int) = p.lines := fun st hst => by
  obtain ⟨t, ht, he⟩ := List.getElem_of_mem hst
  have hl := stepM_len p begin _ rows rfl
  have hr : rows[t]? = some rows[t] := List.getElem?_eq_getElem (by omega)
  have := stepM_get p begin _ rows rfl t _ hr
  rw [List.getElem?_eq_getElem ht, he] at this
  rw [Option.some.inj this]
  exact stateAt_len _ _ _ (h _ (List.getElem_mem _))
theorem stepped_ok {p : Plan} {begin : List Bool} {rows : List (List Bool)} (v : Valid p) (hb : (begin.length : Int) = p.lines) (h : ∀ r ∈ rows, (r.length : Int) = p.many) : steppedR p begin rows = .ok (stepM p begin rows) := by
  unfold steppedR
  have : (rows.all fun r => decide ((r.length : Int) = p.many)) = true := List.all_eq_true.mpr fun r hr => decide_eq_true (h r hr)
  rw [valid_iff.mpr v, this]
  simp [hb]
/-! values in the heap -/
def BitsAt (K : PySem.W.Frag) (G : Hp) (v : V) (bs : List Bool) : Prop := ∃ a, v = .ref a ∧ SqL K G a (bs.map V.bl)
theorem BitsAt.mono {K : PySem.W.Frag} {G G' : Hp} {v : V} {bs : List Bool} (e : Ex G G') (h : BitsAt K G v bs) : BitsAt K G' v bs := by
  obtain ⟨a, rfl, h⟩ := h
  exact ⟨a, rfl, ex_l e h⟩
/-- new lists, none of them the list at q -/
def NewBits (H : Hp) (q : Addr) (G : Hp) (v : V) (bs : List Bool) : Prop := ∃ a, v = .ref a ∧ a ≠ q ∧ H a = none ∧ G a = some (.lst (bs.map V.bl))
theorem NewBits.mono {H : Hp} {q : Addr} {G G' : Hp} {v : V} {bs : List Bool} (e : Ex G G') (h : NewBits H q G v bs) : NewBits H q G' v bs := by
  obtain ⟨a, rfl, h1, h2, h3⟩ := h
  exact ⟨a, rfl, h1, h2, e _ _ h3⟩
theorem NewBits.put {H : Hp} {q : Addr} {G : Hp} {v : V} {bs : List Bool} {o : HO} (h : NewBits H q G v bs) : NewBits H q (upd G q o) v bs := by
  obtain ⟨a, rfl, h1, h2, h3⟩ := h
  exact ⟨a, rfl, h1, h2, by rw [upd_ne h1]; exact h3⟩
theorem NewBits.at {K : PySem.W.Frag} {H : Hp} {q : Addr} {G : Hp} {v : V} {bs : List Bool} (h : NewBits H q G v bs) : BitsAt K G v bs := by
  obtain ⟨a, rfl, _, _, h3⟩ := h
  exact ⟨a, rfl, sq_of h3⟩
/-- a new list of new lists -/
def StatesR (H : Hp) (v : V) (H' : Hp) (sts : List (List Bool)) : Prop := ∃ q zs, v = .ref q ∧ H q = none ∧ H' q = some (.lst zs) ∧ Rows (NewBits H q H') zs sts ∧ zs.Nodup

/-! ### the laws' smaller plans -/
def smallCount (far : Int) (large : Bool) : Int := if large = true ∧ far % 8 = 3 then 90 + far / 8 % 99 else if far % 8 = 1 then 10 + far / 8 % 31 else 0
theorem smallCount_in (far : Int) (large : Bool) : 0 ≤ smallCount far large ∧ smallCount far large ≤ 188 := by
  unfold smallCount
  split
  · omega
  · split <;> omega
def smallGate (far many most k : Int) : Gate := if far % 8 = 1 ∧ many + k > 0 then ⟨"not", [many + k - 1], 1 + k % most⟩ else gateBy (far / 8 + 5 * k) (many + k) most
def smallGates (far many most : Int) : Nat → List Gate
  | 0 => []
  | k + 1 => smallGates far many most k ++ [smallGate far many most k]
theorem smallGates_len (far many most : Int) : ∀ n, (smallGates far many most n).length = n
  | 0 => rfl
  | n + 1 => by rw [smallGates, List.length_append, smallGates_len far many most n]; rfl
theorem good_small {far many most : Int} (hm : 0 ≤ many) (h0 : 0 < most) (h1 : most ≤ 60) : ∀ n, Good many (smallGates far many most n)
  | 0 => good_nil many
  | n + 1 => by
    rw [smallGates]
    refine good_snoc (good_small hm h0 h1 n) ?_
    rw [smallGates_len]
    unfold smallGate
    split
    · rename_i c
      have a := Int.emod_nonneg (n : Int) (show most ≠ 0 by omega)
      have b := Int.emod_lt_of_pos (n : Int) h0
      exact good_not hm (fun h => by have := c.2; omega) ⟨by omega, by omega⟩
    · exact good_gateBy hm h0 h1
def smallList (ns : List Int) (most : Int) (large : Bool) : List Gate := addGates (manyOf (cell ns 0)) most (smallGates (cell ns 1) (manyOf (cell ns 0)) most (smallCount (cell ns 1) large).toNat) ((ns.drop 3).take 12)
def smallP (ns : List Int) (most : Int) (large : Bool) : Plan := turnedM (manyOf (cell ns 0)) (smallList ns most large) (cell ns 2)
theorem smallList_len (ns : List Int) (most : Int) (large : Bool) : (smallList ns most large).length ≤ 200 := by
  unfold smallList
  have := smallCount_in (cell ns 1) large
  rw [addGates_len, smallGates_len, List.length_take]
  omega
theorem good_smallList {ns : List Int} {most : Int} {large : Bool} (h0 : 0 < most) (h1 : most ≤ 60) : Good (manyOf (cell ns 0)) (smallList ns most large) := by
  obtain ⟨m0, m1⟩ := manyOf_in (cell ns 0)
  exact good_add m0 h0 h1 _ _ (good_small m0 h0 h1 _)
theorem small_ok {ns : List Int} {most : Int} {large : Bool} (h0 : 0 < most) (h1 : most ≤ 60) : Valid (smallP ns most large) ∧ Free (smallP ns most large) ∧ ∀ g ∈ (smallP ns most large).gates, PyData.strOk g.kind = true := by
  obtain ⟨m0, m1⟩ := manyOf_in (cell ns 0)
  have hg := good_smallList (ns := ns) (large := large) h0 h1
  exact ⟨turned_valid m0 m1 (smallList_len _ _ _) hg, turned_free m0 hg, turned_str hg⟩

/-! ### late times, the laws' way -/
def optI : Option Int → V
  | none => .non
  | some l => .int l
theorem inV_opts (os : List (Option Int)) : inV .non (os.map optI) = os.any Option.isNone := by
  unfold inV
  induction os with
  | nil => rfl
  | cons o r ih =>
    rw [List.map_cons, List.any_cons, List.any_cons, ih]
    cases o <;> rfl
theorem flat_opts (os : List (Option Int)) : (os.map optI).all flatV = true := by
  rw [List.all_eq_true]
  intro v hv
  obtain ⟨i, _, rfl⟩ := List.mem_map.mp hv
  cases i <;> rfl
/-- what is known so far of the numbers L -/
structure KnownInv (L : List Int) (p : Plan) (os : List (Option Int)) : Prop where
  len : (os.length : Int) = p.lines
  inp : ∀ i : Nat, (i : Int) < p.many → os.getD i none = some (L.getD i 0)
  eq : ∀ (i : Nat) x, os.getD i none = some x → x = L.getD i 0
/-- the gate's turn -/
def knowStep (p : Plan) (os : List (Option Int)) (l : Int) : List (Option Int) :=
  if os.getD l.toNat none = none ∧ ((gateN p l).srcs.map fun s => os.getD s.toNat none).any Option.isNone = false then
    os.set l.toNat (some (if (gateN p l).srcs = [] then 0 else (gateN p l).delay + maxOr 0 ((gateN p l).srcs.map fun s => (os.getD s.toNat none).getD 0)))
  else os
theorem know_step {p : Plan} {f : List Int} {os : List (Option Int)} {l : Int} (ho : orderM p = .ok f) (h : KnownInv (lateBy p f) p os) (l0 : p.many ≤ l) (l1 : l < p.lines) :
    KnownInv (lateBy p f) p (knowStep p os l) ∧ (∀ i : Nat, (os.getD i none).isSome = true → ((knowStep p os l).getD i none).isSome = true) ∧ ((∀ s ∈ (gateN p l).srcs, (os.getD s.toNat none).isSome = true) → ((knowStep p os l).getD l.toNat none).isSome = true) := by
  obtain ⟨v, _, _⟩ := order_ok ho
  have m0 := v.m0
  have hl := h.len
  unfold knowStep
  by_cases c : os.getD l.toNat none = none ∧ ((gateN p l).srcs.map fun s => os.getD s.toNat none).any Option.isNone = false
  · rw [if_pos c]
    have hlt : l.toNat < os.length := by omega
    have hkn : ∀ s ∈ (gateN p l).srcs, ∃ x, os.getD s.toNat none = some x ∧ x = (lateBy p f).getD s.toNat 0 := fun s hs => by
      have := List.any_eq_false.mp c.2 (os.getD s.toNat none) (List.mem_map.mpr ⟨s, hs, rfl⟩)
      cases e : os.getD s.toNat none with
      | none => rw [e] at this; exact absurd rfl this
      | some x => exact ⟨x, rfl, h.eq _ _ e⟩
    have hd : (if (gateN p l).srcs = [] then 0 else (gateN p l).delay + maxOr 0 ((gateN p l).srcs.map fun s => (os.getD s.toNat none).getD 0)) = (lateBy p f).getD l.toNat 0 := by
      have e := late_law ho (l := l) (by omega) l1
      rw [if_neg (show ¬ l < p.many by omega)] at e
      rw [e]
      unfold dueOf
      have : ((gateN p l).srcs.map fun s => (os.getD s.toNat none).getD 0) = (gateN p l).srcs.map fun s => (lateBy p f).getD s.toNat 0 := List.map_congr_left fun s hs => by
        obtain ⟨x, h1, h2⟩ := hkn s hs
        rw [h1, h2]; rfl
      rw [this]
    rw [hd]
    refine ⟨⟨by rw [List.length_set]; exact hl, fun i hi => ?_, fun i x hx => ?_⟩, fun i hi => ?_, fun _ => ?_⟩
    · rw [getD_set_ne (by omega)]; exact h.inp i hi
    · by_cases e : l.toNat = i
      · subst e
        rw [getD_set_eq hlt] at hx
        exact (Option.some.inj hx).symm
      · rw [getD_set_ne e] at hx; exact h.eq i x hx
    · by_cases e : l.toNat = i
      · subst e; rw [getD_set_eq hlt]; rfl
      · rw [getD_set_ne e]; exact hi
    · rw [getD_set_eq hlt]; rfl
  · rw [if_neg c]
    refine ⟨h, fun i hi => hi, fun hs => ?_⟩
    cases e : os.getD l.toNat none with
    | some x => rfl
    | none =>
      refine absurd ⟨e, ?_⟩ c
      rw [List.any_eq_false]
      intro o ho
      obtain ⟨s, hs2, rfl⟩ := List.mem_map.mp ho
      have := hs s hs2
      cases e2 : os.getD s.toNat none with
      | none => rw [e2] at this; cases this
      | some x => simp
theorem know_all {p : Plan} {f : List Int} {os : List (Option Int)} (ho : orderM p = .ok f) (h : KnownInv (lateBy p f) p os) (hk : ∀ l ∈ f, (os.getD l.toNat none).isSome = true) : os = (lateBy p f).map some := by
  obtain ⟨v, _, _⟩ := order_ok ho
  obtain ⟨_, hm⟩ := order_mem ho
  have m0 := v.m0
  have hl := h.len
  have hll := lateBy_len p f
  refine List.ext_getElem? fun i => ?_
  by_cases c : i < os.length
  · have hs : (os.getD i none).isSome = true := by
      by_cases c2 : (i : Int) < p.many
      · rw [h.inp i c2]; rfl
      · have := hk (i : Int) ((hm _).mpr ⟨by omega, by omega⟩)
        rw [Int.toNat_natCast] at this; exact this
    cases e : os.getD i none with
    | none => rw [e] at hs; cases hs
    | some x =>
      have hx := h.eq i x e
      rw [List.getD_eq_getElem?_getD, List.getElem?_eq_getElem c] at e
      have e : os[i] = some x := e
      rw [List.getElem?_eq_getElem c, e, List.getElem?_map, List.getElem?_eq_getElem (by omega), hx, List.getD_eq_getElem?_getD, List.getElem?_eq_getElem (by omega)]
      rfl
  · rw [List.getElem?_eq_none (by omega), List.getElem?_eq_none (by rw [List.length_map]; omega)]
theorem known0 {p : Plan} {f : List Int} (ho : orderM p = .ok f) : KnownInv (lateBy p f) p (List.replicate p.many.toNat (some 0) ++ List.replicate p.gates.length none) := by
  obtain ⟨v, _, _⟩ := order_ok ho
  have m0 := v.m0
  refine ⟨by rw [List.length_append, List.length_replicate, List.length_replicate]; unfold Plan.lines; omega, fun i hi => ?_, fun i x hx => ?_⟩
  · have hlw := late_law ho (l := (i : Int)) (by omega) (by unfold Plan.lines; omega)
    rw [if_pos hi, Int.toNat_natCast] at hlw
    rw [hlw, List.getD_eq_getElem?_getD, List.getElem?_append_left (by rw [List.length_replicate]; omega), List.getElem?_replicate, if_pos (by omega)]
    rfl
  · by_cases c : i < p.many.toNat
    · have hlw := late_law ho (l := (i : Int)) (by omega) (by unfold Plan.lines; omega)
      rw [if_pos (by omega), Int.toNat_natCast] at hlw
      rw [List.getD_eq_getElem?_getD, List.getElem?_append_left (by rw [List.length_replicate]; omega), List.getElem?_replicate, if_pos c] at hx
      rw [hlw]
      exact (Option.some.inj hx).symm
    · rw [List.getD_eq_getElem?_getD, List.getElem?_append_right (by rw [List.length_replicate]; omega), List.getElem?_replicate] at hx
      split at hx <;> cases hx
/-! the states stay -/
theorem maxOr_mem {d : Int} : ∀ {ns : List Int} {y : Int}, y ∈ ns → y ≤ maxOr d ns
  | [], _, h => by cases h
  | n :: r, y, h => (maxOr_spec (n := n) r).2 y h
theorem late_bound {p : Plan} {f : List Int} (ho : orderM p = .ok f) : ∀ n (i : Nat) (l : Int), i < n → f[i]? = some l → (lateBy p f).getD l.toNat 0 ≤ 60 * ((i : Int) + 1) := fun n => by
  obtain ⟨v, _, _⟩ := order_ok ho
  obtain ⟨_, hm⟩ := order_mem ho
  have m0 := v.m0
  induction n with
  | zero => intro i l hi; omega
  | succ n ih =>
    intro i l hi hl
    obtain ⟨a, b⟩ := (hm l).mp (List.mem_of_getElem? hl)
    rw [late_law ho (by omega) b, if_neg (by omega)]
    unfold dueOf
    split
    · omega
    · rename_i hne
      obtain ⟨_, hgm⟩ := gateN_get a b
      obtain ⟨_, _, hd1, hd2⟩ := gate_ok (v.gate _ hgm)
      have hmx : maxOr 0 ((gateN p l).srcs.map fun s => (lateBy p f).getD s.toNat 0) ≤ 60 * (i : Int) := by
        obtain ⟨s, r, hsr⟩ := List.exists_cons_of_ne_nil (show ((gateN p l).srcs.map fun s => (lateBy p f).getD s.toNat 0) ≠ [] by simpa using hne)
        have hmem := (maxOr_spec (n := s) r).1
        rw [hsr]
        rw [← hsr] at hmem
        obtain ⟨s', hs', he⟩ := List.mem_map.mp hmem
        rw [hsr] at he
        rw [← he]
        obtain ⟨s0, s1, hd⟩ := order_srcs ho hl s' hs'
        rcases hd with hd | hd
        · rw [late_law ho s0 s1, if_pos hd]; omega
        · obtain ⟨k, hk, hke⟩ := List.getElem_of_mem hd
          rw [List.length_take] at hk
          rw [List.getElem_take] at hke
          have := ih k s' (by omega) (by rw [List.getElem?_eq_getElem (by omega), hke])
          omega
      omega
theorem late_max {p : Plan} {f : List Int} (ho : orderM p = .ok f) : ∀ y ∈ lateBy p f, y ≤ 12000 := fun y hy => by
  obtain ⟨v, hf, hfl⟩ := order_ok ho
  obtain ⟨_, hm⟩ := order_mem ho
  have m0 := v.m0
  obtain ⟨k, hk, hke⟩ := List.getElem_of_mem hy
  have hkl := hk
  rw [lateBy_len] at hkl
  have e : (lateBy p f).getD ((k : Int)).toNat 0 = y := by
    rw [Int.toNat_natCast, List.getD_eq_getElem?_getD, List.getElem?_eq_getElem hk, hke]; rfl
  by_cases c : (k : Int) < p.many
  · rw [late_law ho (by omega) (by omega), if_pos c] at e; omega
  · obtain ⟨i, hi, hie⟩ := List.getElem_of_mem ((hm (k : Int)).mpr ⟨by omega, by omega⟩)
    have := late_bound ho (i + 1) i (k : Int) (by omega) (by rw [List.getElem?_eq_getElem hi, hie])
    have hn := v.n200
    rw [hf] at hi
    omega
/-- from its late time on a line has its settled value -/
theorem quiet_state {p : Plan} {f : List Int} {ins begin : List Bool} {n : Nat} (ho : orderM p = .ok f) (hi : (ins.length : Int) = p.many) : ∀ m (i : Nat) (l : Int), i < m → f[i]? = some l → ∀ t : Nat, t < n → (lateBy p f).getD l.toNat 0 ≤ (t : Int) →
    ((stepM p begin (List.replicate n ins)).getD t []).getD l.toNat false = (settleBy p ins f).getD l.toNat false := fun m => by
  obtain ⟨v, hf, hfl⟩ := order_ok ho
  obtain ⟨_, hm⟩ := order_mem ho
  have m0 := v.m0
  have hS := settle_solves ho hi
  have hlenst := stepM_len p begin n (List.replicate n ins) List.length_replicate
  have hget : ∀ t : Nat, t < n → (stepM p begin (List.replicate n ins)).getD t [] = stateAt p begin ((stepM p begin (List.replicate n ins)).take t) ins := fun t ht => by
    have := stepM_get p begin n (List.replicate n ins) List.length_replicate t ins (by rw [List.getElem?_replicate, if_pos ht])
    rw [List.getD_eq_getElem?_getD, this]; rfl
  have hinp : ∀ t : Nat, t < n → ∀ l : Int, 0 ≤ l → l < p.many → ((stepM p begin (List.replicate n ins)).getD t []).getD l.toNat false = (settleBy p ins f).getD l.toNat false := fun t ht l l0 l1 => by
    rw [hS.ins l l0 l1, hget t ht]
    unfold stateAt
    rw [List.getD_eq_getElem?_getD, List.getElem?_append_left (by omega), ← List.getD_eq_getElem?_getD]
  induction m with
  | zero => intro i l hi; omega
  | succ m ih =>
    intro i l him hl t ht hlate
    obtain ⟨a, b⟩ := (hm l).mp (List.mem_of_getElem? hl)
    obtain ⟨hg, hgm⟩ := gateN_get a b
    obtain ⟨_, _, hd1, hd2⟩ := gate_ok (v.gate _ hgm)
    have e1 : ((stepM p begin (List.replicate n ins)).getD t []).getD l.toNat false = gateV (gateN p l) (pastOf begin ((stepM p begin (List.replicate n ins)).take t) (gateN p l).delay) := by
      rw [hget t ht]
      unfold stateAt
      rw [List.getD_eq_getElem?_getD, List.getElem?_append_right (by omega), List.getElem?_map, show l.toNat - ins.length = (l - p.many).toNat by omega, hg]
      rfl
    rw [e1, hS.gat l a b]
    unfold ansF gateV
    congr 1
    unfold bitsOf
    refine List.map_congr_left fun s hs => ?_
    rw [late_law ho (by omega) b, if_neg (by omega)] at hlate
    unfold dueOf at hlate
    have hne : (gateN p l).srcs ≠ [] := fun e => by rw [e] at hs; cases hs
    rw [if_neg hne] at hlate
    obtain ⟨s0, s1, hd⟩ := order_srcs ho hl s hs
    have hsm : (lateBy p f).getD s.toNat 0 ≤ maxOr 0 ((gateN p l).srcs.map fun s => (lateBy p f).getD s.toNat 0) := by
      obtain ⟨x, r, hxr⟩ := List.exists_cons_of_ne_nil (show ((gateN p l).srcs.map fun s => (lateBy p f).getD s.toNat 0) ≠ [] by simpa using hne)
      rw [hxr]
      refine (maxOr_spec (n := x) r).2 _ ?_
      rw [← hxr]
      exact List.mem_map.mpr ⟨s, hs, rfl⟩
    have hs0 : 0 ≤ (lateBy p f).getD s.toNat 0 := by
      rw [List.getD_eq_getElem?_getD]
      cases e : (lateBy p f)[s.toNat]? with
      | none => exact Int.le_refl _
      | some y => exact late_pos v f y (List.mem_of_getElem? e)
    have hlt : ((stepM p begin (List.replicate n ins)).take t).length = t := by rw [List.length_take]; omega
    have hpast : pastOf begin ((stepM p begin (List.replicate n ins)).take t) (gateN p l).delay = (stepM p begin (List.replicate n ins)).getD ((t : Int) - (gateN p l).delay).toNat [] := by
      unfold pastOf
      rw [hlt, if_pos (by omega), List.getD_eq_getElem?_getD, List.getElem?_take, if_pos (by omega), ← List.getD_eq_getElem?_getD]
    rw [hpast]
    rcases hd with hd | hd
    · exact hinp _ (by omega) s s0 hd
    · obtain ⟨k, hk, hke⟩ := List.getElem_of_mem hd
      rw [List.length_take] at hk
      rw [List.getElem_take] at hke
      exact ih k s (by omega) (by rw [List.getElem?_eq_getElem (by omega), hke]) _ (by omega) (by omega)
/-- .. any line -/
theorem quiet_any {p : Plan} {f : List Int} {ins begin : List Bool} {n t : Nat} {l : Int} (ho : orderM p = .ok f) (hi : (ins.length : Int) = p.many) (l0 : 0 ≤ l) (l1 : l < p.lines) (ht : t < n) (hl : (lateBy p f).getD l.toNat 0 ≤ (t : Int)) :
    ((stepM p begin (List.replicate n ins)).getD t []).getD l.toNat false = (settleBy p ins f).getD l.toNat false := by
  obtain ⟨_, hm⟩ := order_mem ho
  by_cases c : l < p.many
  · have hS := settle_solves ho hi
    have := stepM_get p begin n (List.replicate n ins) List.length_replicate t ins (by rw [List.getElem?_replicate, if_pos ht])
    have hg : (stepM p begin (List.replicate n ins)).getD t [] = stateAt p begin ((stepM p begin (List.replicate n ins)).take t) ins := by
      rw [List.getD_eq_getElem?_getD, this]; rfl
    rw [hS.ins l l0 c, hg]
    unfold stateAt
    rw [List.getD_eq_getElem?_getD, List.getElem?_append_left (by omega), ← List.getD_eq_getElem?_getD]
  · obtain ⟨i, hi2, hie⟩ := List.getElem_of_mem ((hm l).mpr ⟨by omega, l1⟩)
    exact quiet_state ho hi (i + 1) i l (by omega) (by rw [List.getElem?_eq_getElem hi2, hie]) t ht hl
theorem quiet_last {p : Plan} {f : List Int} {ins begin : List Bool} {n t : Nat} (ho : orderM p = .ok f) (hi : (ins.length : Int) = p.many) (ht : t < n) (hl : maxOr 0 (lateBy p f) ≤ (t : Int)) : (stepM p begin (List.replicate n ins)).getD t [] = settleBy p ins f := by
  obtain ⟨v, _, _⟩ := order_ok ho
  have hS := settle_solves ho hi
  have hlen : (((stepM p begin (List.replicate n ins)).getD t []).length : Int) = p.lines := by
    have hlt : t < (stepM p begin (List.replicate n ins)).length := by rw [stepM_len p begin n _ List.length_replicate]; exact ht
    rw [List.getD_eq_getElem?_getD, List.getElem?_eq_getElem hlt]
    exact stepM_rows (fun r hr => by rw [List.eq_of_mem_replicate hr]; exact hi) _ (List.getElem_mem hlt)
  have hsl := hS.len
  refine List.ext_getElem? fun k => ?_
  by_cases c : k < (settleBy p ins f).length
  · have hle : (lateBy p f).getD k 0 ≤ (t : Int) := by
      rw [List.getD_eq_getElem?_getD]
      have hk : k < (lateBy p f).length := by rw [lateBy_len]; omega
      rw [List.getElem?_eq_getElem hk]
      have := maxOr_mem (d := 0) (List.getElem_mem hk)
      show (lateBy p f)[k] ≤ _
      omega
    have q := quiet_any (begin := begin) (l := (k : Int)) ho hi (by omega) (by omega) ht (by rw [Int.toNat_natCast]; exact hle)
    rw [Int.toNat_natCast, List.getD_eq_getElem?_getD (l := settleBy p ins f), List.getD_eq_getElem?_getD (l := (stepM p begin (List.replicate n ins)).getD t []), List.getElem?_eq_getElem c, List.getElem?_eq_getElem (show k < ((stepM p begin (List.replicate n ins)).getD t []).length by omega)] at q
    rw [List.getElem?_eq_getElem c, List.getElem?_eq_getElem (by omega)]
    exact congrArg some q
  · rw [List.getElem?_eq_none (by omega), List.getElem?_eq_none (by omega)]

/-! ### more: lists of lists, calls with arguments made on the way -/
section
variable {K : PySem.W.Frag} {σ : L2.St} {G H : Hp} {ta tb te tl : TE} {tA : TA} {j : Nat} {vs : List Nat} {sp : Sp} {E : L2.St → XK} {v : V} {xs ys : List V} {a : Addr}
theorem EvAP.imp {P R : List V → Hp → Prop} (h : EvAP tA σ G P) (i : ∀ vs G', Ex G G' → P vs G' → R vs G') : EvAP tA σ G R := fun H e Q q => h H e Q fun v G' H' g1 g2 e1 p => q v G' H' g1 g2 e1 (i v G' g1 p)
theorem el_callP {A : List V → Hp → Prop} (h : EvAP tA σ G A) (hs : ∀ vs G', Ex G G' → A vs G' → SpL sp vs G' xs) : EvL (tCallS sp E tA) σ G xs := fun H e Q q =>
  h H e _ fun vs G1 H1 g1 g2 e1 p => hs vs G1 g1 p H1 g2 Q (fun p H2 hp e2 h2 => q p H2 (e1.none hp) (e1.trans e2) h2) (E σ)
theorem eap_LV (h : EvL ta σ G xs) (h2 : Ev tb σ G v) : EvAP (tCons ta (tCons tb tNil)) σ G fun vs G' => ∃ q, vs = [.ref q, v] ∧ G' q = some (.lst xs) := fun H e Q q =>
  h H e _ fun p H1 _ e1 h1 => h2 H1 (e.trans e1) _ fun H2 e2 => q [.ref p, v] H2 H2 ((e.trans e1).trans e2) (Ex.refl _) (e1.trans e2) ⟨p, rfl, e2 _ _ h1⟩
theorem eap_PL {P : V → Hp → Prop} (h : EvP ta σ G P) (h2 : ∀ G', Ex G G' → EvL tb σ G' xs) : EvAP (tCons ta (tCons tb tNil)) σ G fun vs G' => ∃ v q G1, vs = [v, .ref q] ∧ P v G1 ∧ Ex G G1 ∧ Ex G1 G' ∧ G' q = some (.lst xs) := fun H e Q q =>
  h H e _ fun v G1 H1 g1 g2 e1 p => h2 G1 g1 H1 g2 _ fun p2 H2 _ e2 k2 => q [v, .ref p2] H2 H2 (g1.trans (g2.trans e2)) (Ex.refl _) (e1.trans e2) ⟨v, p2, G1, rfl, p, g1, g2.trans e2, k2⟩
theorem ev_maxV {ns : List Int} (h : Ev ta σ G (.ref a)) (hs : SqL K G a (ns.map V.int)) (h0 : 0 < ns.length) : Ev (tCB (rMax K) (tCons ta tNil)) σ G (.int (maxOr 0 ns)) := fun H e Q q =>
  h H e _ fun H1 e1 => ⟨a, ns, rfl, ex_l (e.trans e1) hs, h0, fun m hm hu => by rw [maxOr_un (d := 0) hm hu]; exact q H1 e1⟩
theorem ev_maxDefV {ns : List Int} {d : Int} (h : Ev ta σ G (.ref a)) (hs : SqL K G a (ns.map V.int)) (h2 : Ev tb σ G (.int d)) : Ev (tCKw (rMaxDef K) (tCons ta tNil) (tCons tb tNil)) σ G (.int (maxOr d ns)) := fun H e Q q =>
  h H e _ fun H1 e1 => h2 H1 (e.trans e1) _ fun H2 e2 => ⟨a, ns, d, rfl, rfl, ex_l ((e.trans e1).trans e2) hs, q H2 (e1.trans e2)⟩
def Cn (H : Hp) (bs : List (List Bool)) (Dl : Addr) (i : Nat) (H' : Hp) : Prop := H Dl = none ∧ Ex H H' ∧ ∃ ws, H' Dl = some (.lst ws) ∧ Rows (NewBits H Dl H') ws (bs.take i)
/-- [new list for k in range(n)] -/
theorem ep_lcLR {n : Int} (f : Int → List Bool) (h : EvA tA σ G [.int n]) (hn : 0 ≤ n ∧ n ≤ 40000) (hw : ∀ x, wipe ((wipe σ vs).set j (some x)) vs = wipe σ vs)
    (he : ∀ k : Int, 0 ≤ k → k < n → EvL te ((wipe σ vs).set j (some (.int k))) G ((f k).map V.bl)) : EvP (tLc (iRng1 tA) (gName j) tYes te vs) σ G fun v G' => ∃ q ws, v = .ref q ∧ G q = none ∧ G' q = some (.lst ws) ∧ Rows (NewBits G q G') ws ((List.range n.toNat).map fun i : Nat => f (i : Int)) := fun H0 e Q q => h H0 e _ fun H1 e1 =>
  ⟨n, rfl, by omega, by omega, fun Dl hD => lc_range (lo := 0) (n := n.toNat) (Cn H1 ((List.range n.toNat).map fun i : Nat => f (i : Int)) Dl) ⟨hD, Ex.new hD, [], upd_same, rows_nil⟩
    (fun i H' hi p => by
      have e0 : (0 : Int) + (i : Int) = (i : Int) := Int.zero_add _
      show wipe ((wipe σ vs).set j (some (.int ((0 : Int) + (i : Int))))) vs = wipe σ vs ∧ te ((wipe σ vs).set j (some (.int ((0 : Int) + (i : Int))))) H' fun y H4 => ∃ acc, H4 Dl = some (.lst acc) ∧ acc.length < sizeLine ∧ Cn H1 ((List.range n.toNat).map fun i : Nat => f (i : Int)) Dl (i + 1) (upd H4 Dl (.lst (acc ++ [y])))
      rw [e0]
      obtain ⟨p1, p2, ws, p3, p4⟩ := p
      refine ⟨hw _, he (i : Int) (by omega) (by omega) H' ((e.trans e1).trans p2) _ fun y H4 hy e4 h4 => ⟨ws, e4 _ _ p3, sz_lt (by have := p4.1; rw [List.length_take] at this; omega), p1, Ex.mut (p2.trans e4) p1, ws ++ [.ref y], upd_same, ?_⟩⟩
      have nD : y ≠ Dl := fun e5 => by rw [e5, p3] at hy; cases hy
      rw [List.take_add_one, List.getElem?_map, List.getElem?_range hi]
      show Rows _ _ (_ ++ [f (i : Int)])
      exact rows_snoc (rows_imp p4 fun _ _ r => (r.mono e4).put) ⟨y, rfl, nD, p2.none hy, by rw [upd_ne nD]; exact h4⟩)
    (fun H' ⟨p1, p2, ws, p3, p4⟩ => q (.ref Dl) H' H' ((e.trans e1).trans p2) (Ex.refl _) (e1.trans p2) ⟨Dl, ws, rfl, (e.trans e1).none p1, p3, by
      rw [List.take_of_length_le (by rw [List.length_map, List.length_range]; exact Nat.le_refl _)] at p4
      exact rows_imp p4 fun _ _ ⟨a, r1, r2, r3, r4⟩ => ⟨a, r1, r2, (e.trans e1).none r3, r4⟩⟩)⟩
end
section
variable {K : PySem.W.Frag} {σ : L2.St} {G H : Hp} {te tl : TE} {j : Nat} {vs : List Nat} {a : Addr}
/-- [new list for x in xs], xs a list of lists that stands -/
theorem ep_lcLX {ws : List V} {rows : List (List Bool)} (h : Ev tl σ G (.ref a)) (hx : SqL K G a ws) (hR : Rows (BitsAt K G) ws rows) (hz : rows.length ≤ 40000) (hw : ∀ x, wipe ((wipe σ vs).set j (some x)) vs = wipe σ vs)
    (he : ∀ w bs, BitsAt K G w bs → EvL te ((wipe σ vs).set j (some w)) G (bs.map V.bl)) : EvP (tLc (iList K tl) (gName j) tYes te vs) σ G fun v G' => ∃ q ws', v = .ref q ∧ G q = none ∧ G' q = some (.lst ws') ∧ Rows (NewBits G q G') ws' rows := fun H0 e Q q => h H0 e _ fun H1 e1 =>
  ⟨a, rfl, ⟨_, ex_l (e.trans e1) hx⟩, fun Dl hD => lc_list (xs := ws) (Cn H1 rows Dl) ⟨hD, Ex.new hD, [], upd_same, rows_nil⟩ (fun i H' _ p => ex_l ((e.trans e1).trans p.2.1) hx)
    (fun i x H' hi p => by
      obtain ⟨bs, hb, hba⟩ := rows_get' hR hi
      have hil := (List.getElem?_eq_some_iff.mp hb).1
      show wipe ((wipe σ vs).set j (some x)) vs = wipe σ vs ∧ te ((wipe σ vs).set j (some x)) H' fun y H4 => ∃ acc, H4 Dl = some (.lst acc) ∧ acc.length < sizeLine ∧ Cn H1 rows Dl (i + 1) (upd H4 Dl (.lst (acc ++ [y])))
      obtain ⟨p1, p2, zs, p3, p4⟩ := p
      refine ⟨hw _, he x bs hba H' ((e.trans e1).trans p2) _ fun y H4 hy e4 h4 => ⟨zs, e4 _ _ p3, sz_lt (by have := p4.1; rw [List.length_take] at this; omega), p1, Ex.mut (p2.trans e4) p1, zs ++ [.ref y], upd_same, ?_⟩⟩
      have nD : y ≠ Dl := fun e5 => by rw [e5, p3] at hy; cases hy
      rw [List.take_add_one, hb]
      show Rows _ _ (_ ++ [bs])
      exact rows_snoc (rows_imp p4 fun _ _ r => (r.mono e4).put) ⟨y, rfl, nD, p2.none hy, by rw [upd_ne nD]; exact h4⟩)
    (fun H' ⟨p1, p2, zs, p3, p4⟩ => q (.ref Dl) H' H' ((e.trans e1).trans p2) (Ex.refl _) (e1.trans p2) ⟨Dl, zs, rfl, (e.trans e1).none p1, p3, by
      rw [List.take_of_length_le (by rw [hR.1]; exact Nat.le_refl _)] at p4
      exact rows_imp p4 fun _ _ ⟨a, r1, r2, r3, r4⟩ => ⟨a, r1, r2, (e.trans e1).none r3, r4⟩⟩)⟩
end

section
open PySem.Spec PyProof.Rows
/-! ### a def that is called in an except suite, with the exception -/
structure FnE (P : Program) (w : World) (K : PySem.W.Frag) (mg : Str → Option Value) (base : Heap) (CX : CXT) (k : Nat) (f : Addr) (fd : FuncData) (ps : List Str) (sp : Addr → Value → Option Addr → Sp) : Prop where
  len : ∀ a cls d vs H Q E, sp a cls d vs H Q E → vs.length = ps.length
  run : ∀ (A : Around) (outer : List Env) (s : Shared) (H : Hp) (args : Args) (us : List Value) (vs : List V) (Q : VK) (E : XK) (a : Addr) (oe : Obj) (cls : Value) (d : Option Addr), L2H.RoomH k A → L2H.PinOk outer H s (a, oe) → Zc cls d oe → (∃ vs, oe.data = .fields vs) →
    Env0 P w K mg base A outer s H → BindsTo s fd args (ps.zip us) → Vals vs us → sp a cls d vs H Q E → codeAny (model P w) A (.call (.ref f) args) (CR CX outer P w H s Q E) s
theorem fn_ofE {CX : CXT} {P : Program} {w : World} {K : PySem.W.Frag} {mg : Str → Option Value} {base : Heap} {k : Nat} {f : Addr} {name qual : Str} {params : Arguments} {body : List Stmt} {scope : Scope} {dV kV doc pm cdv ct oc : Value} {an od : Option Addr}
    {osl : Array (Option Value)} {N ps : List Str} {sp : Addr → Value → Option Addr → Sp} (lk : K.lookup f = some ⟨oc, od, .func (PySem.W.fnOf name qual params body scope dV kV doc pm an cdv ct), osl⟩) (hcd : PySem.W.codeIn K cdv qual = true) (S : FnScope N ps scope)
    (len : ∀ a cls d vs H Q E, sp a cls d vs H Q E → vs.length = ps.length)
    (hbody : ∀ (A : Around) (outer : List Env) (s : Shared) (H : Hp) (vs : List V) (Q : VK) (E : XK) (a : Addr) (oe : Obj) (cls : Value) (d : Option Addr), Zc cls d oe → (∃ vs, oe.data = .fields vs) → L2H.RoomH k (A.deeper (envOfC qual scope s.heap.objs.size f cdv)) → sp a cls d vs H Q E →
      ∃ t, PSs (L2H.cxH CX P w K mg base N qual scope f cdv A outer s H E (a, oe)) body t ∧ t { nx := fun _ H' => Q .non H', rt := Q } (L2.start N vs) H) :
    FnE P w K mg base CX (k + 1) f (PySem.W.fnOf name qual params body scope dV kV doc pm an cdv ct) ps sp := by
  refine ⟨len, fun A outer s H args us vs Q E a oe cls d hr hpin hz hf e0 hb r hsp => ?_⟩
  have hl := len _ _ _ _ _ _ _ hsp
  have KX : K.In s.heap := e0.mod.kin.keeps fun b o e => (e0.bs b o e).1
  have lim : s.heap.NoLimit := e0.mod.nolimit.keeps fun b o e => (e0.bs b o e).1
  have hkind : ∀ y ∈ ps.zip us, scope.names.lookup y.1 = some .local ∨ (scope.names.lookup y.1 = some .cell ∧ ((cellsFrom (s.heap.objs.size + 1) scope.names []).lookup y.1).isSome = true) := fun ⟨n, v⟩ hy => by
    rcases S.par n (List.of_mem_zip hy).1 with q | q
    · exact .inl q
    · exact .inr ⟨q, PySem.W.cellsFrom_some _ _ _ (.inl q)⟩
  refine codeAny_call_function hr.depth (KX _ _ lk) rfl S.co S.gen rfl (PySem.W.codeRec_of KX hcd) (hb _ _ _ _ ?_)
  refine wpAny_newFunctionEnv_cells S.kind hkind fun env he s1 x => ?_
  subst he
  refine ⟨lim.keeps x.toInCall.keep, codeAny_func ?_⟩
  obtain ⟨t, ht, hq⟩ := hbody A outer s H vs Q E a oe cls d hz hf (hr.deeper _) hsp
  have I : Inv (L2H.cxH CX P w K mg base N qual scope f cdv A outer s H E (a, oe)) [] (L2.start N vs) H s1 := L2H.inv_startH S hpin e0 hl r x
  refine wpAny_mono (ht.run [] s1 (L2.start N vs) H _ I hq) (fun fl s' hs => ?_) fun e s' hs => hs
  have fin : ∀ {σ' : L2.St} {H' : Hp} {v : V} {u : Value}, Inv (L2H.cxH CX P w K mg base N qual scope f cdv A outer s H E (a, oe)) [] σ' H' s' → RelV v u → Q v H' → CE outer P w H s Q u s' :=
    fun {σ' H' v u} J rv q => ⟨v, H', J.os, J.bare, J.base, J.hok, rv, q⟩
  cases fl with
  | ret u =>
    obtain ⟨v, σ', H', J, rv, q⟩ := hs
    exact fin J rv q
  | next =>
    obtain ⟨σ', H', J, q⟩ := hs
    exact fin (v := V.non) (u := Value.none) J rfl q
  | brk =>
    obtain ⟨_, _, _, q⟩ := hs
    exact False.elim q
  | cont =>
    obtain ⟨_, _, _, q⟩ := hs
    exact False.elim q
theorem Fun.okE {P : Program} {w : World} {K : PySem.W.Frag} {mg : Str → Option Value} {base : Heap} {x qual : Str} {st : Stmt} {f : Addr} {fd : FuncData} {N ps : List Str} {k : Nat} {sp : Addr → Value → Option Addr → Sp} (F : Fun K x qual st f fd) (S : FnScope N ps (defScope st)) (len : ∀ a cls d vs H Q E, sp a cls d vs H Q E → vs.length = ps.length)
    (hbody : ∀ (cdv : Value) (A : Around) (outer : List Env) (s : Shared) (H : Hp) (vs : List V) (Q : VK) (E : XK) (a : Addr) (oe : Obj) (cls : Value) (d : Option Addr), Zc cls d oe → (∃ vs, oe.data = .fields vs) → L2H.RoomH k (A.deeper (envOfC qual (defScope st) s.heap.objs.size f cdv)) → sp a cls d vs H Q E →
      ∃ t, PSs (L2H.cxH (L2.CX P w) P w K mg base N qual (defScope st) f cdv A outer s H E (a, oe)) (defBody st) t ∧ t { nx := fun _ H' => Q .non H', rt := Q } (L2.start N vs) H) : FnE P w K mg base (L2.CX P w) (k + 1) f fd ps sp := by
  obtain ⟨oc, od, kV, doc, pm, an, cdv, ct, osl, rfl, lk, hcd⟩ := F.ex
  exact fn_ofE lk hcd S len fun A outer s H vs Q E a oe cls d hz hf hr hsp => hbody cdv A outer s H vs Q E a oe cls d hz hf hr hsp
structure CalE (P : Program) (w : World) (K : PySem.W.Frag) (mg : Str → Option Value) (base : Heap) (k : Nat) (x : Str) (sp : Addr → Value → Option Addr → Sp) : Prop where
  ex : ∃ (f : Addr) (fd : FuncData) (ps : List Str), FnE P w K mg base (L2.CX P w) k f fd ps sp ∧ mg x = some (.ref f) ∧ PySem.W.keepIn K (.ref f) = true ∧ Binds K fd ps []
section
variable {X : Cx} {k : Nat} {f : Addr} {fd : FuncData} {ps : List Str} {sp : Addr → Value → Option Addr → Sp} {E : L2.St → XK} {x : Str} {q pos : Pos} {e : Expr} {es : List Expr} {t : TA} {a : Addr} {oe : Obj} {cls : Value} {d : Option Addr}
theorem run_fnE {pins : List (Addr × Obj)} {σ : L2.St} {H : Hp} {s : Shared} {Q : VK} {us : List Value} {vs : List V} (F : FnE X.prog X.w X.K X.mg X.base (L2.CX X.prog X.w) k f fd ps sp) (hr : L2H.RoomH k X.A) (hp : (a, oe) ∈ X.pn) (hz : Zc cls d oe) (hf : ∃ vs, oe.data = .fields vs) (hb : Binds X.K fd ps []) (hx : PassesAt (L2.CX X.prog X.w) X σ (E σ))
    (I : Inv X pins σ H s) (r : Vals vs us) (h : sp a cls d vs H Q (E σ)) : wpAny (model X.prog X.w) X.A (call (.ref f) us) (EP X pins σ Q) X.xe s := by
  have hl : us.length = ps.length := by rw [← r.length]; exact F.len _ _ _ _ _ _ _ h
  have b := hb s us I.kIn (by rw [List.append_nil]; exact hl)
  rw [List.append_nil] at b
  have P1 := I.pin (a, oe) (List.mem_append_left _ hp)
  have hpin : L2H.PinOk X.stack H s (a, oe) := ⟨P1.1, P1.2.1, fun hm => (List.mem_cons.mp (I.stkSub a hm)).elim P1.2.2.1 P1.2.2.2.1, P1.2.2.2.2⟩
  refine wpAny_call (codeAny_mono (F.run X.A X.stack s H ⟨us, []⟩ us vs Q (E σ) a oe cls d hr hpin hz hf I.env0 b r h) fun r s' hq => ?_)
  cases r with
  | error e => exact hx pins H s e s' I hq
  | ok fl =>
    cases fl with
    | ret u => exact I.after hq
    | next => exact False.elim hq
    | brk => exact False.elim hq
    | cont => exact False.elim hq
end
end
section
variable {X : Cx} {k j : Nat} {x : Str} {sp : Addr → Value → Option Addr → Sp} {W : WX} {p pos : Pos} {e : Expr} {es : List Expr} {t : TA} {a : Addr} {oe : Obj} {cls : Value} {d : Option Addr}
/-- the call within the suite -/
theorem pe_ce (c : CalE X.prog X.w X.K X.mg X.base k x sp) (hr : L2H.RoomH j X.A) (hk : k ≤ j) (hp : (a, oe) ∈ X.pn) (hz : Zc cls d oe) (hf : ∃ vs, oe.data = .fields vs) (hg : Gl X x) (tk : Takes X W) (ht : PA X (e :: es) t)
    (hdb : (x == ("__debug__" : Str)) = false := by decide) (he : starEach (e :: es) X.env = (false, eval e X.env) :: starEach es X.env := by rfl) (hpl : (backTo pos (starEach es X.env)).any (·.1) = false := by rfl) :
    PE X (.Call (.Name x p) (e :: es) [] pos) (tCallS (sp a cls d) (WE W) t) := by
  obtain ⟨f, fd, ps, F, hm, hkp, hb⟩ := c.ex
  refine ⟨fun pins s σ H Q I h => ?_⟩
  refine wpAny_Call_Name_kw (ld_glob I hg hm ?_ hdb)
  refine PySem.W.callWith_K (h₀ := X.base) I.ok.mod.kin hkp (thn (ht.run pos pins s σ H _ I h) fun us s1 ⟨vs, H1, I1, r, q⟩ => ⟨I1.kIn, ?_⟩) he hpl
  exact run_fnE F (hr.mono hk) hp hz hf hb (passAt tk σ) I1 r q
/-- isinstance of the exception that is handled, in a def that is called there -/
theorem call_isP (K : PySem.W.Frag) (hz : Zc cls d oe) (hf : ∃ vs, oe.data = .fields vs) (hp : (a, oe) ∈ X.pn) (h : X.K = K := by rfl) : CallR X (.builtin "isinstance") (rIsX K cls d a) := by
  subst h
  intro pins s σ H xs us Q I r h
  obtain ⟨C, rfl, rfl, hC, c, cv, b, rfl, hcv, e, q⟩ := h
  cases r with
  | cons rx rr =>
    cases rr with
    | cons rt rr =>
      cases rr
      cases rx
      have ec := hcv _ rt
      subst ec
      obtain ⟨hget, _⟩ := I.pin (a, oe) (List.mem_append.mpr (.inl hp))
      obtain ⟨vs, hv⟩ := hf
      have J : PySem.W.InstAt s.heap a oe C none := by
        obtain ⟨oc, od, oda, osl⟩ := oe
        obtain ⟨h1, h2⟩ := hz
        dsimp only at h1 h2 hv
        subst h1 h2 hv
        exact ⟨hget, rfl, rfl, trivial⟩
      exact PySem.W.kia_one (PySem.W.handS_kitx_exc hC.hg hC.hk hC.hs hC.hd hC.ha hC.hn hC.ht hC.hm) I.kIn J e (fun z => nomatch z) fun tk => ⟨.bl b, H, I.kept (t' := tk) fun _ _ z => z, rfl, q⟩
theorem calE_of {P : Program} {w : World} {K : PySem.W.Frag} {mg : Str → Option Value} {base : Heap} {k : Nat} {x qual : Str} {st : Stmt} {ps : List Str} {sp : Addr → Value → Option Addr → Sp} (d : DefAt K mg x qual st ps)
    (h : ∀ {f : Addr} {fd : FuncData}, Fun K x qual st f fd → FnE P w K mg base (L2.CX P w) k f fd ps sp) : CalE P w K mg base k x sp := by
  obtain ⟨f, fd, F, hm, hb, _⟩ := d.ex
  exact ⟨f, fd, ps, h F, hm, F.kp, hb⟩
end
theorem roomH_mark {k : Nat} {A : Around} {h : Option Value} (r : Room k A) : L2H.RoomH k (A.mark h) := ⟨r.dp, r.un⟩
def errWord : Err → Str
  | .size => "size" | .kind => "kind" | .sources => "sources" | .line => "line" | .delay => "delay" | .values => "values" | .ringed => "ring" | .deed => "deed" | .text => "text"
def errs : List Err := [.size, .kind, .sources, .line, .delay, .values, .ringed, .deed, .text]
def wordsTo (x : Err) (n : Nat) : List Str := ((errs.take n).filter fun y => decide (x = y)).map errWord

/-! ### rows of values as data; longer ones -/
def rowsD (rows : List (List Bool)) : PyData := .list (rows.map fun r => .list (r.map .bool))
theorem BitsAt.dp {K : PySem.W.Frag} {G : Hp} {v : V} {bs : List Bool} (h : BitsAt K G v bs) : Dp K G v (.list (bs.map .bool)) := by
  obtain ⟨a, rfl, h⟩ := h
  exact .lst h (dpAll_map _ _ bs fun b _ => .bl b)
theorem rows_dp {K : PySem.W.Frag} {G : Hp} {a : Addr} {ws : List V} {rows : List (List Bool)} (h : SqL K G a ws) (hR : Rows (BitsAt K G) ws rows) : Dp K G (.ref a) (rowsD rows) := .lst h (dpAll_rows _ (fun _ _ r => r.dp) hR)
theorem rowD_lay (r : List Bool) : (PyData.list (r.map PyData.bool)).canLay0 = true := by
  rw [PyData.canLay0, canLayAll_map _ _ fun _ _ => by simp [PyData.canLay0]]
theorem rowD_deep (r : List Bool) : (PyData.list (r.map PyData.bool)).depth ≤ 2 := by
  have := depthAll_map PyData.bool 0 r fun _ _ => by simp [PyData.depth]
  simp only [PyData.depth]
  omega
theorem rowsD_shaped (rows : List (List Bool)) : SeqAt.shaped (rowsD rows) = true := by
  unfold SeqAt.shaped rowsD
  have := depthAll_map (fun r : List Bool => PyData.list (r.map PyData.bool)) 2 rows fun r _ => rowD_deep r
  rw [PyData.canLay0, canLayAll_map _ _ fun r _ => rowD_lay r]
  simp only [PyData.depth]
  simp
  omega
theorem stepped_begin {p : Plan} {begin : List Bool} {rows : List (List Bool)} (v : Valid p) (hb : ¬ (begin.length : Int) = p.lines) : steppedR p begin rows = .error .values := by
  unfold steppedR
  rw [valid_iff.mpr v]
  simp only [ne_eq, hb, not_false_eq_true, if_true]
theorem stepped_row {p : Plan} {begin : List Bool} {rows : List (List Bool)} (v : Valid p) {r : List Bool} (hr : r ∈ rows) (h : ¬ (r.length : Int) = p.many) : steppedR p begin rows = .error .values := by
  unfold steppedR
  rw [valid_iff.mpr v]
  have h4 : (rows.all fun r => decide ((r.length : Int) = p.many)) = false := List.all_eq_false.mpr ⟨r, hr, by simpa using h⟩
  simp only [h4]
  split <;> rfl

/-! ### an own class: made, its fields, its methods -/
def tMakeX (C : Addr) (sp : Sp) (E : L2.St → XK) (t : TA) : TE := fun σ H Q => t σ H fun vs G => ∀ x dx, G x = none → G dx = none → dx ≠ x → sp (.ref x :: vs) (upd (upd G dx (.own x)) x (.ins C dx [])) (fun v G2 => v = .non ∧ Q (.ref x) G2) (E σ)
def tMethX (C : Addr) (m : Str) (sp : Sp) (E : L2.St → XK) (ta : TE) (t : TA) : TE := fun σ H Q => ta σ H fun x G => ∃ a dx fs, x = .ref a ∧ G a = some (.ins C dx fs) ∧ fs.lookup m = none ∧ t σ G fun vs G2 => sp (x :: vs) G2 Q (E σ)
structure MakX (P : Program) (w : World) (K : PySem.W.Frag) (mg : Str → Option Value) (base : Heap) (k : Nat) (x : Str) (C : Addr) (sp : Sp) : Prop where
  ex : ∃ (f : Addr) (fd : FuncData) (ps : List Str), Mk K C f ∧ FnOk P w K mg base (L2.CX P w) k f fd ps sp ∧ mg x = some (.ref C) ∧ Binds K fd ps []
structure MetX (P : Program) (w : World) (K : PySem.W.Frag) (mg : Str → Option Value) (base : Heap) (k : Nat) (C : Addr) (m : Str) (sp : Sp) : Prop where
  ex : ∃ (f : Addr) (fd : FuncData) (ps : List Str), Cls K C ∧ Meth K C m f ∧ FnOk P w K mg base (L2.CX P w) k f fd ps sp ∧ Binds K fd ps []
section
open PySem.Spec PyProof.Rows
variable {X : Cx} {k j : Nat} {f C : Addr} {fd : FuncData} {ps : List Str} {sp : Sp} {E : XK} {W : WX} {x m : Str} {p pos apos : Pos} {e o : Expr} {es : List Expr} {ta : TE} {t : TA}
theorem run_mkx {pins : List (Addr × Obj)} {σ : L2.St} {G : Hp} {s : Shared} {Q : VK} {us : List Value} {vs : List V} (M : Mk X.K C f) (F : FnOk X.prog X.w X.K X.mg X.base (L2.CX X.prog X.w) k f fd ps sp) (hr : Room (k + 1) X.A) (hb : Binds X.K fd ps []) (hx : PassesAt (L2.CX X.prog X.w) X σ E)
    (I : Inv X pins σ G s) (r : Vals vs us) (h : ∀ y dy, G y = none → G dy = none → dy ≠ y → sp (.ref y :: vs) (upd (upd G dy (.own y)) y (.ins C dy [])) (fun v G2 => v = .non ∧ Q (.ref y) G2) E) : wpAny (model X.prog X.w) X.A (call (.ref C) us) (EP X pins σ Q) X.xe s := by
  have n1 : G (s.heap.objs.size + 1) = none := I.hok.fresh (Nat.le_succ _)
  have n2 : G s.heap.objs.size = none := I.hok.fresh (Nat.le_refl _)
  have J := Inv.made (C := C) I
  have q := h _ _ n1 n2 (Nat.ne_of_lt (Nat.lt_succ_self _))
  have r2 : Vals (V.ref (s.heap.objs.size + 1) :: vs) (Value.ref (s.heap.objs.size + 1) :: us) := .cons rfl r
  have hl : (Value.ref (s.heap.objs.size + 1) :: us).length = ps.length := r2.length.symm.trans (F.len _ _ _ _ q)
  have b := hb _ (Value.ref (s.heap.objs.size + 1) :: us) J.kIn (by rw [List.append_nil]; exact hl)
  rw [List.append_nil] at b
  refine wpAny_call (make_map (f := f) I.kIn M.makes M.init (beq_iff_eq.mp M.fn) (codeAny_mono (F.run _ X.stack _ _ _ (Value.ref (s.heap.objs.size + 1) :: us) _ _ E (hr.make C us []) (J.env0.make C us []) b r2 q) fun z s2 hz => ?_))
  rcases z with z | z
  · exact hx pins _ _ z s2 J hz
  · cases z with
    | ret u =>
      obtain ⟨_, G3, J3, rv, ⟨rfl, q3⟩⟩ := J.after hz
      exact ⟨rv, V.ref (s.heap.objs.size + 1), G3, J3, rfl, q3⟩
    | next => exact False.elim hz
    | brk => exact False.elim hz
    | cont => exact False.elim hz
theorem pe_mkx (c : MakX X.prog X.w X.K X.mg X.base k x C sp) (hr : Room j X.A) (hk : k + 1 ≤ j) (hg : Gl X x) (tk : Takes X W) (ht : PA X (e :: es) t)
    (hdb : (x == ("__debug__" : Str)) = false := by decide) (he : starEach (e :: es) X.env = (false, eval e X.env) :: starEach es X.env := by rfl) (hpl : (backTo pos (starEach es X.env)).any (·.1) = false := by rfl) :
    PE X (.Call (.Name x p) (e :: es) [] pos) (tMakeX C sp (WE W) t) := by
  obtain ⟨f, fd, ps, M, F, hm, hb⟩ := c.ex
  refine ⟨fun pins s σ G Q I h => wpAny_Call_Name_kw (ld_glob I hg hm ?_ hdb)⟩
  exact PySem.W.callWith_K (h₀ := X.base) I.ok.mod.kin M.kp (thn (ht.run pos pins s σ G _ I h) fun us s1 ⟨vs, G1, I1, r, q⟩ => ⟨I1.kIn, run_mkx M F (hr.mono hk) hb (passAt tk σ) I1 r q⟩) he hpl
theorem pe_mx {pl : Sem Bool} (c : MetX X.prog X.w X.K X.mg X.base k C m sp) (hr : Room j X.A) (hk : k ≤ j) (tk : Takes X W) (he : PE X o ta) (ha : PA X (e :: es) t)
    (hst : starEach (e :: es) X.env = (false, eval e X.env) :: starEach es X.env := by rfl) (hpl : (backTo pos (starEach es X.env)).any (·.1) = false := by rfl)
    (ht : eval (.Call (.Attribute o m apos) (e :: es) [] pos) X.env = (eval o X.env >>= fun ov => standAt apos.atName >>= fun _ => holding [ov] (getMethod ov m pl) >>= fun (f, first) => callWith pos f first (backTo pos (starEach (e :: es) X.env)) (backToKw pos (keywordEach [] X.env))) := by rfl) :
    PE X (.Call (.Attribute o m apos) (e :: es) [] pos) (tMethX C m sp (WE W) ta t) := by
  obtain ⟨f, fd, ps, cl, hm, F, hb⟩ := c.ex
  refine ⟨fun pins s σ G Q I h => PySem.W.methodCall_KW (pl := pl) (thn (he.run pins s σ G _ I h) fun u s1 hh => ?_) ht⟩
  obtain ⟨y, G1, I1, ry, a, dx, fs, rfl, ea, l, q⟩ := hh
  obtain rfl : u = Value.ref a := ry
  refine getmeth_ok I1 ea cl hm l (PySem.W.callWith_K (first := [.ref a]) (h₀ := X.base) I.ok.mod.kin hm.kp (thn (ha.run pos pins s1 σ G1 _ I1 q) fun us s2 hh => ?_) hst hpl)
  obtain ⟨vs, G2, I2, r, q2⟩ := hh
  exact ⟨I2.kIn, run_fnS (us := .ref a :: us) (vs := .ref a :: vs) F (hr.mono hk) hb (passAt tk σ) I2 (.cons rfl r) q2⟩
theorem pe_mx0 {pl : Sem Bool} (c : MetX X.prog X.w X.K X.mg X.base k C m sp) (hr : Room j X.A) (hk : k ≤ j) (tk : Takes X W) (he : PE X o ta)
    (ht : eval (.Call (.Attribute o m apos) [] [] pos) X.env = (eval o X.env >>= fun ov => standAt apos.atName >>= fun _ => holding [ov] (getMethod ov m pl) >>= fun (f, first) => callWith pos f first (backTo pos (starEach [] X.env)) (backToKw pos (keywordEach [] X.env))) := by rfl) :
    PE X (.Call (.Attribute o m apos) [] [] pos) (tMethX C m sp (WE W) ta tNil) := by
  obtain ⟨f, fd, ps, cl, hm, F, hb⟩ := c.ex
  refine ⟨fun pins s σ G Q I h => PySem.W.methodCall_KW (pl := pl) (thn (he.run pins s σ G _ I h) fun u s1 hh => ?_) ht⟩
  obtain ⟨y, G1, I1, ry, a, dx, fs, rfl, ea, l, q⟩ := hh
  obtain rfl : u = Value.ref a := ry
  exact getmeth_ok I1 ea cl hm l (PySem.W.callWith_K0 (first := [.ref a]) I1.kIn hm.kp (run_fnS (us := [.ref a]) (vs := [.ref a]) F (hr.mono hk) hb (passAt tk σ) I1 (.cons rfl .nil) q))
end
/-! where they stand -/
structure MethAt (K : PySem.W.Frag) (C : Addr) (m qual : Str) (st : Stmt) (ps : List Str) : Prop where
  ex : ∃ (f : Addr) (fd : FuncData), Fun K m qual st f fd ∧ Meth K C m f ∧ Binds K fd ps []
theorem meth_at {K : PySem.W.Frag} {C : Addr} {x qual : Str} {st : Stmt} {ps : List Str} {f : Addr} {oc : Value} {od an : Option Addr} {osl : Array (Option Value)} {kV doc pm cdv ct : Value}
    (a : PySem.W.findIn K (.ref C) x = some (some (.ref f))) (i : PySem.W.isFn K (.ref f) = true) (l : K.lookup f = some ⟨oc, od, .func (PySem.W.fnOf x qual (defArgs st) (defBody st) (defScope st) .none kV doc pm an cdv ct), osl⟩) (c : PySem.W.codeIn K cdv qual = true) (k : PySem.W.keepIn K (.ref f) = true)
    (b : ∀ (kV doc pm : Value) (an : Option Addr) (cdv ct : Value) (us : List Value), us.length = ps.length → bindArgs (PySem.W.fnOf x qual (defArgs st) (defBody st) (defScope st) .none kV doc pm an cdv ct) ⟨us, []⟩ = pure (ps.zip us)) : MethAt K C x qual st ps :=
  ⟨f, _, fun_mk l c k, ⟨a, i, k⟩, (fun_mk l c k).binds b⟩
section
variable {P : Program} {w : World} {K : PySem.W.Frag} {mg : Str → Option Value} {base : Heap} {k : Nat} {C : Addr} {x m qual : Str} {st : Stmt} {ps : List Str} {sp : Sp}
theorem metX_of (c : Cls K C) (d : MethAt K C m qual st ps) (h : ∀ {f : Addr} {fd : FuncData}, Fun K m qual st f fd → FnOk P w K mg base (L2.CX P w) k f fd ps sp) : MetX P w K mg base k C m sp := by
  obtain ⟨f, fd, F, hm, hb⟩ := d.ex
  exact ⟨f, fd, ps, c, hm, h F, hb⟩
theorem makX_of (hg : mg x = some (.ref C)) (mk : PySem.W.makesIn K C = true) (kc : PySem.W.keepIn K (.ref C) = true) (d : MethAt K C "__init__" qual st ps) (h : ∀ {f : Addr} {fd : FuncData}, Fun K "__init__" qual st f fd → FnOk P w K mg base (L2.CX P w) k f fd ps sp) : MakX P w K mg base k x C sp := by
  obtain ⟨f, fd, F, hm, hb⟩ := d.ex
  exact ⟨f, fd, ps, ⟨mk, hm.at_, hm.fn, kc⟩, h F, hg, hb⟩
end
/-! fields -/
section
variable {K : PySem.W.Frag} {σ : L2.St} {G H : Hp} {ta tv : TE} {x v : V} {D : Ends} {tz : TS} {a C dx : Addr} {fs : List (Str × V)} {f m : Str} {xs : List V}
theorem ev_fld (h : Ev ta σ G (.ref a)) (hl : G a = some (.ins C dx fs)) (c : Cls K C) (n : NoAttr K C f) (l : fs.lookup f = some v) : Ev (tFld K ta f) σ G v := fun H e Q q => h H e _ fun H1 e1 => ⟨a, C, dx, fs, v, rfl, e1 _ _ (e _ _ hl), c, n, l, q H1 e1⟩
theorem go_fldP {P : V → Hp → Prop} (h : EvP tv σ G P) (ho : ∀ G', Ex G G' → Ev ta σ G' (.ref a)) (hl : G a = some (.ins C dx fs)) (c : Cls K C) (n : NoAttr K C f) (hz : fs.length < 1000) (k : ∀ v G', Ex G G' → P v G' → Go tz D σ (upd G' a (.ins C dx (putF f v fs)))) :
    Go (tSeq (sFld K ta tv f) tz) D σ G := fun H e => h H e _ fun v G' H1 g1 g2 e1 p => ho G' g1 H1 g2 _ fun H2 e2 => ⟨a, C, dx, fs, rfl, e2 _ _ (g2 _ _ (g1 _ _ hl)), c, n, hz, k v G' g1 p _ (Ex.put (g2.trans e2))⟩
theorem go_fldV (h : Ev tv σ G v) (ho : Ev ta σ G (.ref a)) (hl : G a = some (.ins C dx fs)) (c : Cls K C) (n : NoAttr K C f) (hz : fs.length < 1000) (k : Go tz D σ (upd G a (.ins C dx (putF f v fs)))) : Go (tSeq (sFld K ta tv f) tz) D σ G :=
  go_fldP (P := fun x G' => x = v ∧ G' = G) (EvP.of h) (fun _ e => ho.mono e) hl c n hz fun v' G' _ ⟨e1, e2⟩ => by subst e1 e2; exact k
theorem go_fldF (h : EvF tv σ G) : Go (tSeq (sFld K ta tv f) tz) D σ G := fun H e => h H e _
/-- C(..): what __init__ brings about, of a new object at x that G does not know -/
theorem ep_mkx {sp : Sp} {E : L2.St → XK} {tA : TA} {vs : List V} {P : V → Hp → Prop} (h : EvA tA σ G vs)
    (hs : ∀ x dx, G x = none → G dx = none → dx ≠ x → ∀ H0, Ex G H0 → H0 x = none → H0 dx = none → ∀ Q : VK, (∀ G' H', Ex G G' → Ex G' H' → Ex H0 H' → P (.ref x) G' → Q .non H') → sp (.ref x :: vs) (upd (upd H0 dx (.own x)) x (.ins C dx [])) Q (E σ)) :
    EvP (tMakeX C sp E tA) σ G P := fun H e Q q => h H e _ fun H1 e1 x dx hx hd nd => hs x dx ((e.trans e1).none hx) ((e.trans e1).none hd) nd H1 (e.trans e1) hx hd _ fun G' H' g1 g2 e2 p => ⟨rfl, q _ G' H' g1 g2 (e1.trans e2) p⟩
theorem ef_mkx {sp : Sp} {E : L2.St → XK} {tA : TA} {vs : List V} (h : EvA tA σ G vs)
    (hs : ∀ x dx, G x = none → G dx = none → dx ≠ x → ∀ H0, Ex G H0 → H0 x = none → H0 dx = none → ∀ Q : VK, sp (.ref x :: vs) (upd (upd H0 dx (.own x)) x (.ins C dx [])) Q (E σ)) :
    EvF (tMakeX C sp E tA) σ G := fun H e Q => h H e _ fun H1 e1 x dx hx hd nd => hs x dx ((e.trans e1).none hx) ((e.trans e1).none hd) nd H1 (e.trans e1) hx hd _
end
/-! the board's fields -/
def bf (h g ps l : Addr) (m : Int) : List (Str × V) := [("held", .ref h), ("many", .int m), ("gates", .ref g), ("past", .ref ps), ("last", .ref l)]
theorem bf_ne : ¬ (("held" : Str) = "many") ∧ ¬ (("held" : Str) = "gates") ∧ ¬ (("held" : Str) = "past") ∧ ¬ (("held" : Str) = "last") ∧ ¬ (("many" : Str) = "gates") ∧ ¬ (("many" : Str) = "past") ∧ ¬ (("many" : Str) = "last") ∧ ¬ (("gates" : Str) = "past") ∧ ¬ (("gates" : Str) = "last") ∧ ¬ (("past" : Str) = "last") := by decide +kernel
section
variable {h h2 g g2 ps ps2 l l2 : Addr} {m : Int}
theorem bf_mk : putF "last" (.ref l) (putF "past" (.ref ps) (putF "gates" (.ref g) (putF "many" (.int m) (putF "held" (.ref h) [])))) = bf h g ps l m := by
  obtain ⟨a1, a2, a3, a4, a5, a6, a7, a8, a9, a10⟩ := bf_ne
  simp only [putF, bf, if_neg a1, if_neg a2, if_neg a3, if_neg a4, if_neg a5, if_neg a6, if_neg a7, if_neg a8, if_neg a9, if_neg a10]
theorem bf_held : (bf h g ps l m).lookup ("held" : Str) = some (V.ref h) := by
  obtain ⟨a1, a2, a3, a4, a5, a6, a7, a8, a9, a10⟩ := bf_ne
  rw [← bf_mk]
  simp only [lookup_putF, if_neg a1, if_neg a2, if_neg a3, if_neg a4, if_true]
theorem bf_many : (bf h g ps l m).lookup ("many" : Str) = some (V.int m) := by
  obtain ⟨a1, a2, a3, a4, a5, a6, a7, a8, a9, a10⟩ := bf_ne
  rw [← bf_mk]
  simp only [lookup_putF, if_neg a5, if_neg a6, if_neg a7, if_true]
theorem bf_gates : (bf h g ps l m).lookup ("gates" : Str) = some (V.ref g) := by
  obtain ⟨a1, a2, a3, a4, a5, a6, a7, a8, a9, a10⟩ := bf_ne
  rw [← bf_mk]
  simp only [lookup_putF, if_neg a8, if_neg a9, if_true]
theorem bf_past : (bf h g ps l m).lookup ("past" : Str) = some (V.ref ps) := by
  obtain ⟨a1, a2, a3, a4, a5, a6, a7, a8, a9, a10⟩ := bf_ne
  rw [← bf_mk]
  simp only [lookup_putF, if_neg a10, if_true]
theorem bf_last : (bf h g ps l m).lookup ("last" : Str) = some (V.ref l) := by
  rw [← bf_mk]
  simp only [lookup_putF, if_true]
theorem bf_no {f : Str} (a1 : ¬ f = "held") (a2 : ¬ f = "many") (a3 : ¬ f = "gates") (a4 : ¬ f = "past") (a5 : ¬ f = "last") : (bf h g ps l m).lookup f = none := by
  rw [← bf_mk]
  simp only [lookup_putF, if_neg a1, if_neg a2, if_neg a3, if_neg a4, if_neg a5]
  rfl
theorem bf_put_held : putF "held" (.ref h2) (bf h g ps l m) = bf h2 g ps l m := by
  simp only [putF, bf, if_true]
theorem bf_put_gates : putF "gates" (.ref g2) (bf h g ps l m) = bf h g2 ps l m := by
  obtain ⟨a1, a2, a3, a4, a5, a6, a7, a8, a9, a10⟩ := bf_ne
  simp only [putF, bf, if_neg a2, if_neg a5, if_true]
theorem bf_put_last : putF "last" (.ref l2) (bf h g ps l m) = bf h g ps l2 m := by
  obtain ⟨a1, a2, a3, a4, a5, a6, a7, a8, a9, a10⟩ := bf_ne
  simp only [putF, bf, if_neg a4, if_neg a7, if_neg a9, if_neg a10, if_true]
end
/-- a new board at x, behind the heap H0 -/
def BoardNew (K : PySem.W.Frag) (C : Addr) (H0 : Hp) (x : Addr) (H' : Hp) (p : Plan) (vals : List Bool) : Prop := ∃ dx h g ps l ws, H' x = some (.ins C dx (bf h g ps l p.many)) ∧ H' h = some (.lst (vals.map V.bl)) ∧ H' g = some (.lst ws) ∧ Rows (GateAt K H0) ws p.gates ∧ H' ps = some (.lst []) ∧ H' l = some (.lst []) ∧
  H0 h = none ∧ H0 g = none ∧ H0 ps = none ∧ H0 l = none ∧ ps ≠ h ∧ ps ≠ g ∧ ps ≠ l

/-! ### whether a plan has a ring, the laws' way -/
def ringedB (p : Plan) : Bool := decide ((goneM p).1.length < p.gates.length)
theorem order_ringed {p : Plan} (v : Valid p) : orderM p = if ringedB p = true then .error .ringed else .ok (goneM p).1 := by
  unfold orderM ringedB
  rw [valid_iff.mpr v]
  simp only [decide_eq_true_eq]
theorem order_of_free {p : Plan} (v : Valid p) (h : ringedB p = false) : orderM p = .ok (goneM p).1 := by
  rw [order_ringed v, h]; rfl
theorem order_of_ring {p : Plan} (v : Valid p) (h : ringedB p = true) : orderM p = .error .ringed := by
  rw [order_ringed v, h]; rfl
theorem free_ringed {p : Plan} (v : Valid p) (h : Free p) : ringedB p = false := by
  unfold ringedB
  rw [decide_eq_false_iff_not, gone_full v h]
  omega
/-- all that is found and done at the end stays so -/
theorem gone_src {p : Plan} (v : Valid p) {d : List Bool} (hs : ∀ l : Int, 0 ≤ l → l < p.lines → d.getD l.toNat false = true → l < p.many ∨ l ∈ (goneM p).1) {k : Int} (k0 : p.many ≤ k) (k1 : k < p.lines) (h : okSrcs d (gateN p k).srcs = true) : k ∈ (goneM p).1 := by
  obtain ⟨gi, hn⟩ := gone_inv v.m0
  have m0 := v.m0
  obtain ⟨hg, hgm⟩ := gateN_get k0 k1
  obtain ⟨_, hsr, _⟩ := gate_ok (v.gate _ hgm)
  refine (gi.fnd k).mpr ⟨k0, k1, ?_⟩
  have e : p.many + (((k - p.many).toNat : Nat) : Int) = k := by omega
  have := ready_none hn _ _ hg
  rw [e] at this
  rcases this with q | q
  · exact q
  · exfalso
    rw [okSrcs_iff.mpr fun s hs2 => ?_] at q
    · cases q
    · obtain ⟨s0, s1⟩ := hsr s hs2
      rcases hs s s0 s1 (okSrcs_iff.mp h s hs2) with c | c
      · exact gi.inp s.toNat (by omega)
      · exact ((gi.fnd s).mp c).2.2
/-- the sources of the one that is found at i -/
theorem gone_srcs {p : Plan} (v : Valid p) {i : Nat} {l : Int} (hl : (goneM p).1[i]? = some l) : ∀ s ∈ (gateN p l).srcs, 0 ≤ s ∧ s < p.lines ∧ (s < p.many ∨ s ∈ (goneM p).1.take i) := by
  obtain ⟨gi, _⟩ := gone_inv v.m0
  obtain ⟨j, g, hg, e, _, hs⟩ := ready_some (gone_steps p i l hl)
  intro s hss
  have eg : gateN p l = g := by
    unfold gateN
    rw [List.getD_eq_getElem?_getD, show (l - p.many).toNat = j by omega, hg]; rfl
  rw [eg] at hss
  obtain ⟨_, hsr, _⟩ := gate_ok (v.gate g (List.mem_of_getElem? hg))
  obtain ⟨s0, s1⟩ := hsr s hss
  refine ⟨s0, s1, ?_⟩
  rcases doneBy_get (p := p) s0 _ _ (fun x hx => by have := ((gi.fnd x).mp (List.mem_of_mem_take hx)).1; have := v.m0; omega) (okSrcs_iff.mp hs s hss) with q | q
  · rw [done0_get (by omega)] at q
    have := of_decide_eq_true q
    left; omega
  · exact .inr q
/-- behind t turns, and at the line k of the next -/
structure RingInv (p : Plan) (t : Nat) (k : Int) (d : List Bool) : Prop where
  len : (d.length : Int) = p.lines
  inp : ∀ l : Int, 0 ≤ l → l < p.many → d.getD l.toNat false = true
  snd : ∀ l : Int, 0 ≤ l → l < p.lines → d.getD l.toNat false = true → l < p.many ∨ l ∈ (goneM p).1
  old : ∀ (i : Nat) l, i < t → (goneM p).1[i]? = some l → d.getD l.toNat false = true
  now : ∀ l, l < k → (goneM p).1[t]? = some l → d.getD l.toNat false = true
theorem ringInv0 {p : Plan} (v : Valid p) : RingInv p 0 p.many (done0 p) := by
  have m0 := v.m0
  obtain ⟨gi, _⟩ := gone_inv m0
  have hl : 0 ≤ p.lines := by unfold Plan.lines; omega
  refine ⟨by rw [done0_len]; omega, fun l l0 l1 => ?_, fun l l0 l1 h => ?_, fun i l hi => by omega, fun l hl h => ?_⟩
  · rw [done0_get (by unfold Plan.lines at *; omega)]; exact decide_eq_true (by omega)
  · rw [done0_get (by omega)] at h
    have := of_decide_eq_true h
    left; omega
  · have := ((gi.fnd l).mp (List.mem_of_getElem? h)).1
    omega
theorem RingInv.turn {p : Plan} {t : Nat} {d : List Bool} (v : Valid p) (h : RingInv p t p.lines d) : RingInv p (t + 1) p.many d := by
  obtain ⟨gi, _⟩ := gone_inv v.m0
  refine ⟨h.len, h.inp, h.snd, fun i l hi hl => ?_, fun l hl h2 => ?_⟩
  · by_cases c : i < t
    · exact h.old i l c hl
    · rw [show i = t by omega] at hl
      exact h.now l ((gi.fnd l).mp (List.mem_of_getElem? hl)).2.1 hl
  · have := ((gi.fnd l).mp (List.mem_of_getElem? h2)).1
    omega
theorem RingInv.step {p : Plan} {t : Nat} {k : Int} {d : List Bool} (v : Valid p) (h : RingInv p t k d) (k0 : p.many ≤ k) (k1 : k < p.lines) :
    RingInv p t (k + 1) (if !(d.getD k.toNat false) && okSrcs d (gateN p k).srcs then d.set k.toNat true else d) := by
  have m0 := v.m0
  have hlen := h.len
  obtain ⟨gi, _⟩ := gone_inv m0
  have hkl : k.toNat < d.length := by omega
  -- the one that is found at t
  have hnow : (goneM p).1[t]? = some k → okSrcs d (gateN p k).srcs = true := fun hk => okSrcs_iff.mpr fun s hs => by
    obtain ⟨s0, s1, c⟩ := gone_srcs v hk s hs
    rcases c with c | c
    · exact h.inp s s0 c
    · obtain ⟨i, hi, hie⟩ := List.getElem_of_mem c
      rw [List.length_take] at hi
      rw [List.getElem_take] at hie
      exact h.old i s (by omega) (by rw [List.getElem?_eq_getElem (by omega), hie])
  have up : ∀ j : Nat, d.getD j false = true → (d.set k.toNat true).getD j false = true := fun j hj => by
    rw [getD_set hkl]
    split
    · rfl
    · exact hj
  by_cases c : (!(d.getD k.toNat false) && okSrcs d (gateN p k).srcs) = true
  · rw [if_pos c]
    rw [Bool.and_eq_true] at c
    refine ⟨by rw [List.length_set]; exact hlen, fun l l0 l1 => up _ (h.inp l l0 l1), fun l l0 l1 hl => ?_, fun i l hi hl => up _ (h.old i l hi hl), fun l hl h2 => ?_⟩
    · rw [getD_set hkl] at hl
      by_cases e : k.toNat = l.toNat
      · right
        rw [show l = k by omega]
        exact gone_src v h.snd k0 k1 c.2
      · rw [if_neg e] at hl
        exact h.snd l l0 l1 hl
    · by_cases e : l = k
      · subst e; rw [getD_set hkl, if_pos rfl]
      · exact up _ (h.now l (by omega) h2)
  · rw [if_neg c]
    refine ⟨hlen, h.inp, h.snd, h.old, fun l hl h2 => ?_⟩
    by_cases e : l = k
    · subst e
      rw [hnow h2] at c
      cases e2 : d.getD l.toNat false with
      | true => rfl
      | false => rw [e2] at c; exact absurd rfl c
    · exact h.now l (by omega) h2
theorem ringInv_end {p : Plan} {t : Nat} {d : List Bool} (v : Valid p) (h : RingInv p t p.many d) (ht : p.gates.length ≤ t) : (!d.all id) = ringedB p := by
  have m0 := v.m0
  have hlen := h.len
  obtain ⟨gi, _⟩ := gone_inv m0
  have hcnt := gi.cnt
  unfold ringedB
  have hall : d.all id = true ↔ ∀ l : Int, 0 ≤ l → l < p.lines → d.getD l.toNat false = true := by
    rw [List.all_eq_true]
    constructor
    · intro q l l0 l1
      have hl : l.toNat < d.length := by omega
      rw [List.getD_eq_getElem?_getD, List.getElem?_eq_getElem hl]
      exact q _ (List.getElem_mem hl)
    · intro q b hb
      obtain ⟨i, hi, rfl⟩ := List.getElem_of_mem hb
      have := q (i : Int) (by omega) (by omega)
      rw [Int.toNat_natCast, List.getD_eq_getElem?_getD, List.getElem?_eq_getElem hi] at this
      exact this
  by_cases c : (goneM p).1.length < p.gates.length
  · rw [decide_eq_true c]
    cases e : d.all id with
    | false => rfl
    | true =>
      exfalso
      have hd := hall.mp e
      have z : cntF (goneM p).2 = 0 := cntF_zero fun i hi => by
        have hgl := gi.len
        by_cases c2 : (i : Int) < p.many
        · exact gi.inp i c2
        · rcases h.snd (i : Int) (by omega) (by omega) (hd (i : Int) (by omega) (by omega)) with q | q
          · omega
          · have := ((gi.fnd _).mp q).2.2
            rw [Int.toNat_natCast] at this
            exact this
      omega
  · rw [decide_eq_false c]
    have ho : orderM p = .ok (goneM p).1 := order_of_free v (by unfold ringedB; exact decide_eq_false c)
    obtain ⟨_, hm⟩ := order_mem ho
    have : d.all id = true := hall.mpr fun l l0 l1 => by
      by_cases c2 : l < p.many
      · exact h.inp l l0 c2
      · obtain ⟨i, hi, hie⟩ := List.getElem_of_mem ((hm l).mpr ⟨by omega, l1⟩)
        exact h.old i l (by omega) (by rw [List.getElem?_eq_getElem hi, hie])
    rw [this]; rfl

section
open PySem.Spec PyProof.Rows
/-! ### list(reversed(xs)) -/
variable {prog : Program} {w : World} {A : Around} {E : Value → Shared → Prop} {s : Shared}
theorem wp_ext_rev {R : Result → Shared → Prop} {it l S : Addr} {items : Array Value} {res : Value} {c0 : Nat} (hh : A.handled = none) (hit : s.heap.IsRevIter it l ((items.size : Int) - 1)) (hl : s.heap.IsList l items) (hne : l ≠ it) (nSi : S ≠ it) (nSl : S ≠ l) (hn : items.size ≤ sizeLine)
    (hS : s.heap.get? S = some { cls := .type "list", data := .seq #[] c0 })
    (hR : ∀ (h2 : Heap) (tk : Nat) (acc : Array Value) (c2 : Nat), (∀ b o, b ≠ S → b ≠ it → s.heap.get? b = some o → h2.get? b = some o) → h2.get? S = some { cls := .type "list", dict := none, data := .seq acc c2, slots := #[] } →
      ItemsOf (fun i v => items[items.size - 1 - i]? = some v) acc items.size → R (.ok (.ret res)) { s with heap := h2, toks := tk }) :
    wpAny (model prog w) A.in1 (Builtin.List.listExtendWith (.ref S) (.ref it) res) (fun fin s2 => match fin with | .done f => R (.ok f) s2 | .again c2 => c2.quiet = true ∧ codeAny (model prog w) A c2 R s2) (fun e s2 => R (.error e) s2) s := by
  have Wk := (Walks.listRev (prog := prog) (w := w) (A := A.in1) hh it l hne items).toS
  have nS : S ∉ [it, l] := by simp only [List.mem_cons, List.not_mem_nil, or_false, not_or]; exact ⟨nSi, nSl⟩
  have hTy := Heap.IsRevIter.typeIs (s := s) hit
  have n1 : Builtin.List.listSameRef (.ref S) (.ref it) = false := by simp [Builtin.List.listSameRef, nSi]
  unfold Builtin.List.listExtendWith
  refine wpAny_bind (wpAny_typeOf hTy ?_)
  rw [if_neg (by rw [n1]; decide)]
  refine wpAny_bind (wpAny_pyIter_revIter hit (wpAny_bind (wpAny_holding ?_)))
  unfold Builtin.List.listLengthHint
  refine wpAny_bind (wpAny_specialOf hTy RT.nolen_lri ?_)
  show wpAny _ A.in1 (specialOf (Value.ref it) (Str.ofString "__length_hint__") >>= _) _ _ s
  refine wpAny_bind (wpAny_specialOf hTy RT.hint_lri ?_)
  generalize hk : ("list_reverseiterator.__length_hint__" : String) = kid
  wp_delta
  rw [show splitId kid = some ("list_reverseiterator", "__length_hint__") from by subst hk; decide +kernel]
  subst hk
  refine wpAny_bind (wpAny_isInstance (b := true) hTy (by rw [isSubtype_type]; kernel_rfl) (wpAny_pure ?_))
  rw [if_neg (by decide)]
  have e0 : ((items.size : Nat) : Int) - 1 - ((0 : Nat) : Int) = (items.size : Int) - 1 := by omega
  refine wpAny_pure ⟨plainId_quiet F.plain_extend_loop _, codeAny_extend_loopS Wk hn _ nS _ items.size 0 _ _ _ rfl (Nat.zero_le _) ⟨Nat.zero_le _, by rw [e0]; exact hit, hl⟩ hS (ItemsOf.nil _) fun s2 acc c2 hm hS2 hacc => ?_⟩
  rw [Moved.eq_with hm]
  exact hR s2.heap s2.toks acc c2 (fun b o b1 b2 e => hm.heap b o (fun hb => by
    rcases List.mem_cons.mp hb with z | z
    · exact b1 z
    · exact b2 (List.mem_singleton.mp z)) e) hS2 hacc
theorem wp_init_rev {R : Result → Shared → Prop} {it l S : Addr} {items : Array Value} (hh : A.handled = none) (hit : s.heap.IsRevIter it l ((items.size : Int) - 1)) (hl : s.heap.IsList l items) (hne : l ≠ it) (nSi : S ≠ it) (nSl : S ≠ l) (hn : items.size ≤ sizeLine)
    (hS : s.heap.get? S = some { cls := .type "list", data := .seq #[] })
    (hR : ∀ (h2 : Heap) (tk : Nat) (acc : Array Value) (c2 : Nat), (∀ b o, b ≠ S → b ≠ it → s.heap.get? b = some o → h2.get? b = some o) → h2.get? S = some { cls := .type "list", dict := none, data := .seq acc c2, slots := #[] } →
      ItemsOf (fun i v => items[items.size - 1 - i]? = some v) acc items.size → R (.ok (.ret .none)) { s with heap := h2, toks := tk }) :
    wpAny (model prog w) A.in1 (Builtin.«list.__init__» ⟨[.ref S, .ref it], []⟩) (fun fin s2 => match fin with | .done f => R (.ok f) s2 | .again c2 => c2.quiet = true ∧ codeAny (model prog w) A c2 R s2) (fun e s2 => R (.error e) s2) s := by
  show wpAny _ A.in1 (Builtin.List.listItems (.ref S) >>= fun old => Builtin.List.listUpdate (.ref S) (fun _ => #[]) >>= fun _ => letGo old.toList.reverse >>= fun _ => Builtin.List.listExtendWith (.ref S) (.ref it) .none) _ _ s
  have oth : ∀ b o, b ≠ S → s.heap.get? b = some o → (s.heap.update S (Obj.mapSeq (fun _ => (#[] : Array Value)))).get? b = some o := fun b o hb e => (Heap.get?_update_other _ _ (Ne.symm hb)).trans e
  have hS2 := Heap.get?_update_self (Obj.mapSeq (fun _ => (#[] : Array Value))) hS rfl
  refine wpAny_bind ?_
  unfold Builtin.List.listItems
  refine wpAny_bind (wpAny_seqItems hS rfl (wpAny_pure ?_))
  show wpAny _ A.in1 (updateSeq S (fun _ => #[]) >>= fun _ => letGo (#[] : Array Value).toList.reverse >>= fun _ => Builtin.List.listExtendWith (.ref S) (.ref it) .none) _ _ s
  refine wpAny_bind (wpAny_updateSeq hS rfl (wpAny_bind (wpAny_letGo ?_)))
  obtain ⟨ol, hol, hor⟩ := hl
  exact wp_ext_rev (s := { s with heap := s.heap.update S (Obj.mapSeq (fun _ => (#[] : Array Value))) }) hh (hit.at fun o e => oth it o (Ne.symm nSi) e) ⟨ol, oth l _ (Ne.symm nSl) hol, hor⟩ hne nSi nSl hn hS2 fun h2 tk acc c2 q hq hacc => hR h2 tk acc c2 (fun b o b1 b2 e => q b o b1 b2 (oth b o b1 e)) hq hacc
theorem call_lst_rev {it l : Addr} {items : Array Value} {Q : Value → Shared → Prop} (hh : A.handled = none) (hit : s.heap.IsRevIter it l ((items.size : Int) - 1)) (hl : s.heap.IsList l items) (hne : l ≠ it) (hn : items.size ≤ sizeLine)
    (hQ : ∀ (h2 : Heap) (tk : Nat) (acc : Array Value) (c2 : Nat), (∀ b o, b ≠ it → s.heap.get? b = some o → h2.get? b = some o) → h2.get? s.heap.objs.size = some { cls := .type "list", dict := none, data := .seq acc c2, slots := #[] } →
      ItemsOf (fun i v => items[items.size - 1 - i]? = some v) acc items.size → Q (.ref s.heap.objs.size) { s with heap := h2, toks := tk }) : wpAny (model prog w) A (call (.type "list") [.ref it]) Q E s := by
  refine callType_codes (Q₁ := fun o s1 => o = .ref s.heap.objs.size ∧ s1 = { s with heap := s.heap.push { cls := .type "list", data := .seq #[] } }) F.called_list (F.typeCall_list_1 _) F.entry_list_init (code_list_new _ ⟨rfl, rfl⟩) fun o s1 h1 => ?_
  obtain ⟨rfl, rfl⟩ := h1
  have hS : (s.heap.push { cls := .type "list", data := .seq #[] }).get? s.heap.objs.size = some { cls := .type "list", data := .seq #[] } := Heap.get?_push_size _ rfl
  obtain ⟨oi, hoi, _⟩ := id hit
  obtain ⟨ol, hol, _⟩ := id hl
  refine ⟨⟨_, hS, rfl⟩, F.args_list_init_2 _ _, wp_init_rev (s := { s with heap := s.heap.push { cls := .type "list", data := .seq #[] } }) (A := A.in1) hh (hit.at fun o e => Heap.get?_push_of_some _ e) (hl.push _) hne (Nat.ne_of_gt (Heap.lt_size hoi)) (Nat.ne_of_gt (Heap.lt_size hol)) hn hS fun h2 tk acc c2 q hq hacc => ⟨rfl, ?_⟩⟩
  exact hQ h2 tk acc c2 (fun b o b2 e => q b o (Nat.ne_of_lt (Heap.lt_size e)) b2 (Heap.get?_push_of_some _ e)) hq hacc
end
section
open PySem.Spec PyProof.Rows
def tLstRev (K : PySem.W.Frag) (te : TE) : TE := fun σ H Q => te σ H fun v G => ∃ (a : Addr) (xs : List V), v = .ref a ∧ SqL K G a xs ∧ ∀ q, G q = none → Q (.ref q) (upd G q (.lst xs.reverse))
theorem pe_lstRev {X : Cx} {e : Expr} {te : TE} {p p2 pos pos2 : Pos} (hc : X.calm = true) (hg : Gl X "list") (hm : X.mg "list" = none) (hg2 : Gl X "reversed") (hm2 : X.mg "reversed" = none) (he : PE X e te)
    (hs : starEach [e] X.env = (false, eval e X.env) :: starEach [] X.env := by rfl)
    (hs2 : starEach [.Call (.Name "reversed" p2) [e] [] pos2] X.env = (false, eval (.Call (.Name "reversed" p2) [e] [] pos2) X.env) :: starEach [] X.env := by rfl) :
    PE X (.Call (.Name "list" p) [.Call (.Name "reversed" p2) [e] [] pos2] [] pos) (tLstRev X.K te) := by
  refine ⟨fun pins s σ G Q I h => Call_ (ld_blt I hg hm boot_list (PyProof.Rows.callWith_type1 (args_cons (Call_ (ld_blt I hg2 hm2 PyProof.Rows.boot_reversed (PyProof.Rows.callWith_type1 (args_cons (thn (he.run pins s σ G _ I h) fun u s1 hh => args_nil ?_) hs) hs rfl))) hs2) hs2 rfl))⟩
  obtain ⟨v, G1, I1, r1, a, xs, ev, hq, q⟩ := hh
  subst ev
  obtain rfl : u = Value.ref a := r1
  obtain ⟨its, rv, p', hz⟩ := I1.list hq
  refine call_reversed_list p'.isList (args_nil ?_)
  have k0 : ∀ b o, s1.heap.get? b = some o → (s1.heap.push (revObj a ((its.toArray.size : Int) - 1))).get? b = some o := fun b o z => Heap.get?_push_of_some _ z
  have I2 : Inv X pins σ G1 { s1 with heap := s1.heap.push (revObj a ((its.toArray.size : Int) - 1)) } := I1.kept (t' := s1.toks) k0
  obtain ⟨f0, f1, f2, f3, f4, f5⟩ := I1.fpOk (H' := G1) (b := s1.heap.objs.size) (Nat.le_refl _) (I1.hok.fresh (Nat.le_refl _))
  have hli := p'.isList
  obtain ⟨ol, hol, _⟩ := id hli
  have hn : its.toArray.size ≤ sizeLine := by rw [List.size_toArray, ← rv.length]; exact hz
  refine call_lst_rev (s := { s1 with heap := s1.heap.push (revObj a ((its.toArray.size : Int) - 1)) }) (I1.ok.hd hc) ⟨_, Heap.get?_push_size _ rfl, rfl, rfl⟩ (hli.push _) (Nat.ne_of_lt (Heap.lt_size hol)) hn fun h2 tk acc c2 hk hS hi => ?_
  have k1 : ∀ b o, s1.heap.get? b = some o → h2.get? b = some o := fun b o z => hk b o (Nat.ne_of_lt (Heap.lt_size z)) (k0 b o z)
  have hp : s1.heap.objs.size ≤ (s1.heap.push (revObj a ((its.toArray.size : Int) - 1))).objs.size := by rw [Heap.size_push]; exact Nat.le_succ _
  refine ⟨.ref _, upd G1 _ (.lst xs.reverse), I1.laid (t' := tk) k1 hp (show ObjOk X.prog X.w _ _ _ (.lst xs.reverse) from ⟨by rw [List.length_reverse]; exact hz, acc.toList, c2, RT.vals_rev rv hi, by rw [Array.toArray_toList]; exact hS⟩), rfl, q _ (I1.hok.fresh hp)⟩
end

/-! ### a ring, told -/
theorem gone_all_ringed {p : Plan} (v : Valid p) : (goneM p).2.all id = !ringedB p := by
  have m0 := v.m0
  obtain ⟨gi, _⟩ := gone_inv m0
  have hcnt := gi.cnt
  unfold ringedB
  by_cases c : (goneM p).1.length < p.gates.length
  · rw [decide_eq_true c]
    cases e : (goneM p).2.all id with
    | false => rfl
    | true =>
      exfalso
      have z : cntF (goneM p).2 = 0 := by
        unfold cntF
        rw [List.length_eq_zero_iff, List.filter_eq_nil_iff]
        intro b hb
        have := List.all_eq_true.mp e b hb
        simp only [id] at this
        rw [this]; decide
      omega
  · rw [decide_eq_false c]
    rw [Bool.not_false, List.all_eq_true]
    intro b hb
    obtain ⟨i, hi, rfl⟩ := List.getElem_of_mem hb
    have := cntF_zero' (d := (goneM p).2) (by omega) i hi
    rw [List.getD_eq_getElem?_getD, List.getElem?_eq_getElem hi] at this
    exact this
/-- a gate's line that is never done -/
def Stuck (p : Plan) (l : Int) : Prop := p.many ≤ l ∧ l < p.lines ∧ (goneM p).2.getD l.toNat false = false
theorem first_false : ∀ {d : List Bool}, d.all id = false → ∃ j : Nat, d[j]? = some false ∧ ∀ (m : Nat) (b : Bool), m < j → d[m]? = some b → b = true
  | [], h => by cases h
  | false :: r, _ => ⟨0, rfl, fun m b hm => by omega⟩
  | true :: r, h => by
    obtain ⟨j, h1, h2⟩ := first_false (d := r) (by simpa using h)
    refine ⟨j + 1, by simpa using h1, fun m b hm hb => ?_⟩
    cases m with
    | zero => simpa using hb.symm
    | succ m => exact h2 m b (by omega) (by simpa using hb)
theorem stuck_first {p : Plan} (v : Valid p) {j : Nat} (h : (goneM p).2[j]? = some false) : Stuck p (j : Int) := by
  obtain ⟨gi, _⟩ := gone_inv v.m0
  have hl := gi.len
  have hj := (List.getElem?_eq_some_iff.mp h).1
  have hd : (goneM p).2.getD ((j : Int)).toNat false = false := by rw [Int.toNat_natCast, List.getD_eq_getElem?_getD, h]; rfl
  refine ⟨?_, by omega, hd⟩
  by_cases c : (j : Int) < p.many
  · have := gi.inp j c
    rw [Int.toNat_natCast] at hd
    rw [hd] at this; cases this
  · omega
/-- it has a source that is never done either -/
theorem stuck_next {p : Plan} (v : Valid p) {l : Int} (h : Stuck p l) : ∃ s r, (gateN p l).srcs.filter (fun s => !((goneM p).2.getD s.toNat false)) = s :: r ∧ s ∈ (gateN p l).srcs ∧ Stuck p s := by
  obtain ⟨h0, h1, h2⟩ := h
  obtain ⟨gi, hn⟩ := gone_inv v.m0
  obtain ⟨hg, hgm⟩ := gateN_get h0 h1
  obtain ⟨_, hsr, _⟩ := gate_ok (v.gate _ hgm)
  have e : p.many + (((l - p.many).toNat : Nat) : Int) = l := by omega
  have q := ready_none hn _ _ hg
  rw [e, h2] at q
  have hf : okSrcs (goneM p).2 (gateN p l).srcs = false := q.elim (fun z => by cases z) id
  have hne : (gateN p l).srcs.filter (fun s => !((goneM p).2.getD s.toNat false)) ≠ [] := fun hnil => by
    rw [List.filter_eq_nil_iff] at hnil
    have : okSrcs (goneM p).2 (gateN p l).srcs = true := okSrcs_iff.mpr fun s hs => by
      have := hnil s hs
      simpa using this
    rw [this] at hf; cases hf
  obtain ⟨s, r, hsr2⟩ := List.exists_cons_of_ne_nil hne
  have hm : s ∈ (gateN p l).srcs.filter (fun s => !((goneM p).2.getD s.toNat false)) := by rw [hsr2]; exact List.mem_cons_self
  obtain ⟨m1, m2⟩ := List.mem_filter.mp hm
  obtain ⟨s0, s1⟩ := hsr s m1
  have m3 : (goneM p).2.getD s.toNat false = false := by simpa using m2
  refine ⟨s, r, hsr2, m1, ?_, s1, m3⟩
  by_cases c : s < p.many
  · have := gi.inp s.toNat (by omega)
    rw [m3] at this; cases this
  · omega
structure RingWay (p : Plan) (wl : List Int) (line : Int) : Prop where
  nd : wl.Nodup
  rng : ∀ l ∈ wl, Stuck p l
  cur : Stuck p line
  chain : ∀ (i : Nat) a b, wl[i]? = some a → wl[i + 1]? = some b → b ∈ (gateN p a).srcs
  last : ∀ a, wl.getLast? = some a → line ∈ (gateN p a).srcs
theorem RingWay.len {p : Plan} {wl : List Int} {line : Int} (v : Valid p) (h : RingWay p wl line) : wl.length ≤ cntF (goneM p).2 := by
  obtain ⟨gi, _⟩ := gone_inv v.m0
  have hl := gi.len
  have := cntF_doneBy wl (goneM p).2 (fun x hx => by
    obtain ⟨h0, h1, h2⟩ := h.rng x hx
    have := v.m0
    exact ⟨by omega, by omega, h2⟩) h.nd
  omega
theorem ringWay0 {p : Plan} {line : Int} (h : Stuck p line) : RingWay p [] line :=
  ⟨List.nodup_nil, fun l hl => (by cases hl), h, fun i a b h => by simp at h, fun a h => by simp at h⟩
theorem RingWay.step {p : Plan} {wl : List Int} {line s : Int} (h : RingWay p wl line) (hn : line ∉ wl) (hs : s ∈ (gateN p line).srcs) (hst : Stuck p s) : RingWay p (wl ++ [line]) s := by
  refine ⟨?_, fun l hl => ?_, hst, fun i a b ha hb => ?_, fun a ha => ?_⟩
  · exact List.nodup_append.mpr ⟨h.nd, by simp, fun x hx y hy => by rw [List.mem_singleton.mp hy]; intro e; exact hn (e ▸ hx)⟩
  · rcases List.mem_append.mp hl with hl | hl
    · exact h.rng l hl
    · rw [List.mem_singleton.mp hl]; exact h.cur
  · have hi : i + 1 < (wl ++ [line]).length := (List.getElem?_eq_some_iff.mp hb).1
    rw [List.length_append] at hi
    simp only [List.length_cons, List.length_nil] at hi
    rw [List.getElem?_append_left (by omega)] at ha
    by_cases c : i + 1 < wl.length
    · rw [List.getElem?_append_left c] at hb
      exact h.chain i a b ha hb
    · rw [List.getElem?_append_right (by omega), show i + 1 - wl.length = 0 by omega] at hb
      have hb : line = b := by simpa using hb
      subst hb
      refine h.last a ?_
      rw [List.getLast?_eq_getElem?, show wl.length - 1 = i by omega]
      exact ha
  · rw [List.getLast?_append] at ha
    have ha : line = a := by simpa using ha
    subst ha
    exact hs
/-- a ring: lines of gates, each a source of the next one, the last of the first -/
structure GoesRound (p : Plan) (ls : List Int) : Prop where
  ne : ls ≠ []
  nd : ls.Nodup
  rng : ∀ l ∈ ls, p.many ≤ l ∧ l < p.lines
  chain : ∀ (i : Nat) a b, ls[i]? = some a → ls[i + 1]? = some b → a ∈ (gateN p b).srcs
  last : ∀ a b, ls.getLast? = some a → ls[0]? = some b → a ∈ (gateN p b).srcs
theorem ringWay_round {p : Plan} {wl : List Int} {line : Int} {j : Nat} (h : RingWay p wl line) (hj : wl[j]? = some line) : GoesRound p (wl.drop j).reverse := by
  have hjl := (List.getElem?_eq_some_iff.mp hj).1
  have hlen : (wl.drop j).length = wl.length - j := List.length_drop
  have get : ∀ i, i < wl.length - j → (wl.drop j).reverse[i]? = wl[wl.length - 1 - i]? := fun i hi => by
    rw [List.getElem?_reverse (by omega), List.getElem?_drop, hlen]
    congr 1
    omega
  refine ⟨fun e => ?_, List.pairwise_reverse.mpr ((h.nd.sublist (List.drop_sublist _ _)).imp Ne.symm), fun l hl => ?_, fun i a b ha hb => ?_, fun a b ha hb => ?_⟩
  · have := congrArg List.length e
    rw [List.length_reverse, hlen] at this
    simp at this; omega
  · obtain ⟨h0, h1, _⟩ := h.rng l (List.mem_of_mem_drop (List.mem_reverse.mp hl))
    exact ⟨h0, h1⟩
  · have hi := (List.getElem?_eq_some_iff.mp hb).1
    rw [List.length_reverse, hlen] at hi
    rw [get i (by omega)] at ha
    rw [get (i + 1) hi] at hb
    refine h.chain (wl.length - 1 - (i + 1)) b a hb ?_
    rw [show wl.length - 1 - (i + 1) + 1 = wl.length - 1 - i by omega]
    exact ha
  · rw [get 0 (by omega), Nat.sub_zero, ← List.getLast?_eq_getElem?] at hb
    rw [List.getLast?_reverse, List.head?_drop, hj] at ha
    cases ha
    exact h.last b hb
/-! evaluation -/
section
variable {K : PySem.W.Frag} {σ : L2.St} {G : Hp} {ta tb te : TE} {x y z : V} {xs : List V} {p : Addr} {j : Nat}
theorem ev_index (ha : Ev ta σ G (.ref p)) (h : SqL K G p xs) (hb : Ev tb σ G y) (fy : flatV y = true) (fx : xs.all flatV = true) (hz : xs[j]? = some z) (he : eqV z y = true) (hno : ∀ (m : Nat) (z' : V), m < j → xs[m]? = some z' → eqV z' y = false) :
    Ev (tBM K "list" (rIndex K) ta (tCons tb tNil)) σ G (.int (j : Nat)) := fun H e Q q => ha H e _ fun H1 e1 => ⟨Or.inl ⟨rfl, xs, ex_l (e.trans e1) h⟩, hb H1 (e.trans e1) _ fun H2 e2 => ⟨p, xs, y, j, z, rfl, rfl, ex_l ((e.trans e1).trans e2) h, fy, fx, hz, he, hno, q H2 (e1.trans e2)⟩⟩
theorem el_lstRev (h : EvL te σ G xs) : EvL (tLstRev K te) σ G xs.reverse := fun H e Q q => h H e _ fun p H1 hp e1 h1 => ⟨p, xs, rfl, sq_of h1, fun l hl => q l _ (e1.none hl) (e1.trans (Ex.new hl)) upd_same⟩
theorem ev_lenSet {ns : List Int} (ha : Ev ta σ G (.ref p)) (h : SqL K G p (ns.map V.int)) (nd : ns.Nodup) (hn : ns.length ≤ 4000) : Ev (RZ.tLenSetI K ta) σ G (.int ns.length) := fun H e Q q => ha H e _ fun H1 e1 => ⟨p, ns, rfl, ex_l (e.trans e1) h, nd, hn, q H1 e1⟩
end
theorem flat_bools (bs : List Bool) : (bs.map V.bl).all flatV = true := by
  rw [List.all_eq_true]
  intro v hv
  obtain ⟨i, _, rfl⟩ := List.mem_map.mp hv
  rfl
/-- the first place of it -/
theorem first_at {x : Int} : ∀ {wl : List Int}, x ∈ wl → ∃ j : Nat, wl[j]? = some x ∧ ∀ (m : Nat) (z : Int), m < j → wl[m]? = some z → z ≠ x
  | [], h => by cases h
  | y :: r, h => by
    by_cases c : y = x
    · exact ⟨0, by rw [c]; rfl, fun m z hm => by omega⟩
    · obtain ⟨j, h1, h2⟩ := first_at (wl := r) ((List.mem_cons.mp h).resolve_left fun e => c e.symm)
      refine ⟨j + 1, by simpa using h1, fun m z hm hz => ?_⟩
      cases m with
      | zero =>
        have : y = z := by simpa using hz
        rw [← this]; exact c
      | succ m => exact h2 m z (by omega) (by simpa using hz)
theorem ef_callP2 {σ : L2.St} {G : Hp} {sp : Sp} {E : L2.St → XK} {tA : TA} {A : List V → Hp → Prop} (h : EvAP tA σ G A) (hs : ∀ vs G', Ex G G' → A vs G' → ∀ H, Ex G' H → ∀ Q, sp vs H Q (E σ)) : EvF (tCallS sp E tA) σ G := fun H e Q => h H e _ fun vs G1 H1 g1 g2 _ p => hs vs G1 g1 p H1 g2 Q

/-! ### what stays when a plan is trimmed -/
inductive Kept (p : Plan) (outs : List Int) : Int → Prop
  | inp {l : Int} : 0 ≤ l → l < p.many → Kept p outs l
  | out {l : Int} : l ∈ outs → Kept p outs l
  | src {y s : Int} : Kept p outs y → p.many ≤ y → y < p.lines → s ∈ (gateN p y).srcs → Kept p outs s
theorem Kept.range {p : Plan} {outs : List Int} (v : Valid p) (ho : ∀ o ∈ outs, 0 ≤ o ∧ o < p.lines) {l : Int} (h : Kept p outs l) : 0 ≤ l ∧ l < p.lines := by
  cases h with
  | inp h0 h1 => exact ⟨h0, by unfold Plan.lines; omega⟩
  | out h => exact ho l h
  | src _ y0 y1 hs =>
    obtain ⟨_, hgm⟩ := gateN_get y0 y1
    obtain ⟨_, hsr, _⟩ := gate_ok (v.gate _ hgm)
    exact hsr l hs
open Classical in
noncomputable def keptL (p : Plan) (outs : List Int) : List Int := ((List.range p.lines.toNat).filter fun i : Nat => decide (Kept p outs (i : Int))).map fun i : Nat => (i : Int)
open Classical in
theorem mem_keptL {p : Plan} {outs : List Int} (v : Valid p) (ho : ∀ o ∈ outs, 0 ≤ o ∧ o < p.lines) {l : Int} : l ∈ keptL p outs ↔ Kept p outs l := by
  unfold keptL
  rw [List.mem_map]
  constructor
  · rintro ⟨i, hi, rfl⟩
    exact of_decide_eq_true (List.mem_filter.mp hi).2
  · intro h
    obtain ⟨h0, h1⟩ := h.range v ho
    exact ⟨l.toNat, List.mem_filter.mpr ⟨List.mem_range.mpr (by omega), by rw [show ((l.toNat : Nat) : Int) = l by omega]; exact decide_eq_true h⟩, by omega⟩
open Classical in
theorem keptL_nodup (p : Plan) (outs : List Int) : (keptL p outs).Nodup := by
  unfold keptL
  have h : ((List.range p.lines.toNat).filter fun i : Nat => decide (Kept p outs (i : Int))).Nodup := List.Nodup.sublist List.filter_sublist List.nodup_range
  exact h.map (fun i : Nat => (i : Int)) fun a b hne he => hne (by omega)
theorem keptL_len (p : Plan) (outs : List Int) : (keptL p outs).length ≤ p.lines.toNat := by
  unfold keptL
  rw [List.length_map]
  have := List.length_filter_le (fun i : Nat => @decide (Kept p outs (i : Int)) (Classical.propDecidable _)) (List.range p.lines.toNat)
  rw [List.length_range] at this
  exact this
open Classical in
/-- a list of marks that tells it -/
theorem keptL_marks {p : Plan} {outs : List Int} {k : List Bool} (h : ∀ l : Int, 0 ≤ l → l < p.lines → (k.getD l.toNat false = true ↔ Kept p outs l)) : (((List.range p.lines.toNat).filter fun i : Nat => k.getD i false).map fun i : Nat => (i : Int)) = keptL p outs := by
  unfold keptL
  congr 1
  refine List.filter_congr fun i hi => ?_
  have := List.mem_range.mp hi
  have q := h (i : Int) (by omega) (by omega)
  rw [Int.toNat_natCast] at q
  by_cases c : Kept p outs (i : Int)
  · rw [q.mpr c, decide_eq_true c]
  · rw [decide_eq_false c]
    cases e : k.getD i false
    · rfl
    · exact absurd (q.mp e) c
/-! the program's way -/
structure KeptInv (p : Plan) (outs : List Int) (k : List Bool) (w : List Int) : Prop where
  len : (k.length : Int) = p.lines
  inp : ∀ l : Int, 0 ≤ l → l < p.many → k.getD l.toNat false = true
  snd : ∀ l : Int, 0 ≤ l → l < p.lines → k.getD l.toNat false = true → Kept p outs l
  wt : ∀ l ∈ w, Kept p outs l
  out : ∀ o ∈ outs, k.getD o.toNat false = true ∨ o ∈ w
  cl : ∀ y : Int, p.many ≤ y → y < p.lines → k.getD y.toNat false = true → ∀ s ∈ (gateN p y).srcs, k.getD s.toNat false = true ∨ s ∈ w
theorem keptInv0 {p : Plan} {outs : List Int} (v : Valid p) : KeptInv p outs (done0 p) outs := by
  have m0 := v.m0
  have hl : 0 ≤ p.lines := by unfold Plan.lines; omega
  refine ⟨by rw [done0_len]; omega, fun l l0 l1 => ?_, fun l l0 l1 h => ?_, fun l h => .out h, fun o h => .inr h, fun y y0 y1 h => ?_⟩
  · rw [done0_get (by unfold Plan.lines at *; omega)]; exact decide_eq_true (by omega)
  · rw [done0_get (by omega)] at h
    have := of_decide_eq_true h
    exact .inp l0 (by omega)
  · rw [done0_get (by omega)] at h
    have := of_decide_eq_true h
    omega
theorem KeptInv.skip {p : Plan} {outs : List Int} {k : List Bool} {w : List Int} {l : Int} (h : KeptInv p outs k (w ++ [l])) (hk : k.getD l.toNat false = true) : KeptInv p outs k w := by
  have red : ∀ s, k.getD s.toNat false = true ∨ s ∈ w ++ [l] → k.getD s.toNat false = true ∨ s ∈ w := fun s hs => by
    rcases hs with hs | hs
    · exact .inl hs
    · rcases List.mem_append.mp hs with hs | hs
      · exact .inr hs
      · rw [List.mem_singleton.mp hs]; exact .inl hk
  exact ⟨h.len, h.inp, h.snd, fun x hx => h.wt x (List.mem_append_left _ hx), fun o ho => red o (h.out o ho), fun y y0 y1 hy s hs => red s (h.cl y y0 y1 hy s hs)⟩
theorem KeptInv.mark {p : Plan} {outs : List Int} {k : List Bool} {w : List Int} {l : Int} (v : Valid p) (ho : ∀ o ∈ outs, 0 ≤ o ∧ o < p.lines) (h : KeptInv p outs k (w ++ [l])) (hk : k.getD l.toNat false = false) :
    p.many ≤ l ∧ l < p.lines ∧ KeptInv p outs (k.set l.toNat true) (w ++ (gateN p l).srcs) ∧ cntF (k.set l.toNat true) + 1 = cntF k := by
  have hK : Kept p outs l := h.wt l (List.mem_append_right _ (List.mem_singleton.mpr rfl))
  obtain ⟨l0, l1⟩ := hK.range v ho
  have m0 := v.m0
  have hlen := h.len
  have hkl : l.toNat < k.length := by omega
  have lm : p.many ≤ l := by
    by_cases c : l < p.many
    · have := h.inp l l0 c
      rw [hk] at this; cases this
    · omega
  have up : ∀ j : Nat, k.getD j false = true → (k.set l.toNat true).getD j false = true := fun j hj => by
    rw [getD_set hkl]
    split
    · rfl
    · exact hj
  have self : (k.set l.toNat true).getD l.toNat false = true := by rw [getD_set hkl, if_pos rfl]
  have red : ∀ s, k.getD s.toNat false = true ∨ s ∈ w ++ [l] → (k.set l.toNat true).getD s.toNat false = true ∨ s ∈ w ++ (gateN p l).srcs := fun s hs => by
    rcases hs with hs | hs
    · exact .inl (up _ hs)
    · rcases List.mem_append.mp hs with hs | hs
      · exact .inr (List.mem_append_left _ hs)
      · rw [List.mem_singleton.mp hs]; exact .inl self
  refine ⟨lm, l1, ⟨by rw [List.length_set]; exact hlen, fun x x0 x1 => up _ (h.inp x x0 x1), fun x x0 x1 hx => ?_, fun x hx => ?_, fun o ho => red o (h.out o ho), fun y y0 y1 hy s hs => ?_⟩, cntF_set hkl hk⟩
  · rw [getD_set hkl] at hx
    by_cases e : l.toNat = x.toNat
    · rw [show x = l by omega]; exact hK
    · rw [if_neg e] at hx; exact h.snd x x0 x1 hx
  · rcases List.mem_append.mp hx with hx | hx
    · exact h.wt x (List.mem_append_left _ hx)
    · exact .src hK lm l1 hx
  · rw [getD_set hkl] at hy
    by_cases e : l.toNat = y.toNat
    · rw [show y = l by omega] at hs
      exact .inr (List.mem_append_right _ hs)
    · rw [if_neg e] at hy
      exact red s (h.cl y y0 y1 hy s hs)
theorem kept_closed {p : Plan} {outs : List Int} {k : List Bool} (v : Valid p) (ho : ∀ o ∈ outs, 0 ≤ o ∧ o < p.lines) (hi : ∀ l : Int, 0 ≤ l → l < p.many → k.getD l.toNat false = true) (hs : ∀ l : Int, 0 ≤ l → l < p.lines → k.getD l.toNat false = true → Kept p outs l)
    (hout : ∀ o ∈ outs, k.getD o.toNat false = true) (hc : ∀ y : Int, p.many ≤ y → y < p.lines → k.getD y.toNat false = true → ∀ s ∈ (gateN p y).srcs, k.getD s.toNat false = true) : ∀ l : Int, 0 ≤ l → l < p.lines → (k.getD l.toNat false = true ↔ Kept p outs l) := by
  intro l l0 l1
  refine ⟨hs l l0 l1, fun h => ?_⟩
  clear l0 l1
  induction h with
  | inp a b => exact hi _ a b
  | out a => exact hout _ a
  | src a b c d ih => exact hc _ b c ih _ d
theorem KeptInv.done {p : Plan} {outs : List Int} {k : List Bool} (v : Valid p) (ho : ∀ o ∈ outs, 0 ≤ o ∧ o < p.lines) (h : KeptInv p outs k []) : ∀ l : Int, 0 ≤ l → l < p.lines → (k.getD l.toNat false = true ↔ Kept p outs l) :=
  kept_closed v ho h.inp h.snd (fun o ho => (h.out o ho).elim id fun z => by cases z) fun y y0 y1 hy s hs => (h.cl y y0 y1 hy s hs).elim id fun z => by cases z
/-! the laws' way: round by round -/
def markStep (r : List Bool × List Int) (s : Int) : List Bool × List Int := if r.1.getD s.toNat false = false then (r.1.set s.toNat true, r.2 ++ [s]) else r
def markAll (r : List Bool × List Int) (ss : List Int) : List Bool × List Int := ss.foldl markStep r
theorem markAll_snoc (r : List Bool × List Int) (ss : List Int) (s : Int) : markAll r (ss ++ [s]) = markStep (markAll r ss) s := by unfold markAll; rw [List.foldl_append]; rfl
theorem markAll_app (r : List Bool × List Int) (ss ts : List Int) : markAll r (ss ++ ts) = markAll (markAll r ss) ts := by unfold markAll; rw [List.foldl_append]
structure MarkOut (r : List Bool × List Int) (ss : List Int) (r2 : List Bool × List Int) : Prop where
  len : r2.1.length = r.1.length
  cnt : r2.2.length + cntF r2.1 = r.2.length + cntF r.1
  up : ∀ j : Nat, r.1.getD j false = true → r2.1.getD j false = true
  got : ∀ s ∈ ss, r2.1.getD s.toNat false = true
  new : ∀ j : Nat, r2.1.getD j false = true → r.1.getD j false = true ∨ ∃ s ∈ ss, s.toNat = j ∧ s ∈ r2.2
  old : ∀ s ∈ r.2, s ∈ r2.2
  from_ : ∀ s ∈ r2.2, s ∈ r.2 ∨ (s ∈ ss ∧ r.1.getD s.toNat false = false)
theorem markAll_out : ∀ (ss : List Int) (r : List Bool × List Int), (∀ s ∈ ss, 0 ≤ s ∧ s.toNat < r.1.length) → MarkOut r ss (markAll r ss)
  | [], r, _ => ⟨rfl, rfl, fun _ h => h, fun s h => (by cases h), fun j h => .inl h, fun s h => h, fun s h => .inl h⟩
  | s :: ss, r, h => by
    obtain ⟨s0, s1⟩ := h s List.mem_cons_self
    show MarkOut r (s :: ss) (markAll (markStep r s) ss)
    unfold markStep
    by_cases c : r.1.getD s.toNat false = false
    · rw [if_pos c]
      obtain ⟨a1, a2, a3, a4, a5, a6, a7⟩ := markAll_out ss (r.1.set s.toNat true, r.2 ++ [s]) (fun x hx => by
        obtain ⟨x0, x1⟩ := h x (List.mem_cons_of_mem _ hx)
        exact ⟨x0, by show x.toNat < (r.1.set s.toNat true).length; rw [List.length_set]; exact x1⟩)
      have hc := cntF_set s1 c
      have up1 : ∀ j : Nat, r.1.getD j false = true → (r.1.set s.toNat true).getD j false = true := fun j hj => by
        rw [getD_set s1]
        split
        · rfl
        · exact hj
      have self1 : (r.1.set s.toNat true).getD s.toNat false = true := by rw [getD_set s1, if_pos rfl]
      have mem1 : s ∈ (markAll (r.1.set s.toNat true, r.2 ++ [s]) ss).2 := a6 s (List.mem_append_right _ (List.mem_singleton.mpr rfl))
      refine ⟨by rw [a1]; exact List.length_set, by rw [a2]; show (r.2 ++ [s]).length + _ = _; rw [List.length_append]; simp only [List.length_cons, List.length_nil]; omega, fun j hj => a3 j (up1 j hj), fun x hx => ?_, fun j hj => ?_, fun x hx => a6 x (List.mem_append_left _ hx), fun x hx => ?_⟩
      · rcases List.mem_cons.mp hx with rfl | hx
        · exact a3 _ self1
        · exact a4 x hx
      · rcases a5 j hj with q | ⟨x, x1, x2, x3⟩
        · rw [show (r.1.set s.toNat true, r.2 ++ [s]).1 = r.1.set s.toNat true from rfl, getD_set s1] at q
          by_cases e : s.toNat = j
          · exact .inr ⟨s, List.mem_cons_self, e, mem1⟩
          · rw [if_neg e] at q; exact .inl q
        · exact .inr ⟨x, List.mem_cons_of_mem _ x1, x2, x3⟩
      · rcases a7 x hx with q | ⟨q1, q2⟩
        · rcases List.mem_append.mp q with q | q
          · exact .inl q
          · rw [List.mem_singleton.mp q]; exact .inr ⟨List.mem_cons_self, c⟩
        · refine .inr ⟨List.mem_cons_of_mem _ q1, ?_⟩
          cases e : r.1.getD x.toNat false with
          | false => rfl
          | true =>
            have := up1 _ e
            rw [show (r.1.set s.toNat true, r.2 ++ [s]).1 = r.1.set s.toNat true from rfl, this] at q2
            cases q2
    · rw [if_neg c]
      have c2 : r.1.getD s.toNat false = true := by cases e : r.1.getD s.toNat false; exact absurd e c; rfl
      obtain ⟨a1, a2, a3, a4, a5, a6, a7⟩ := markAll_out ss r (fun x hx => h x (List.mem_cons_of_mem _ hx))
      refine ⟨a1, a2, a3, fun x hx => ?_, fun j hj => ?_, a6, fun x hx => ?_⟩
      · rcases List.mem_cons.mp hx with rfl | hx
        · exact a3 _ c2
        · exact a4 x hx
      · rcases a5 j hj with q | ⟨x, x1, x2, x3⟩
        · exact .inl q
        · exact .inr ⟨x, List.mem_cons_of_mem _ x1, x2, x3⟩
      · rcases a7 x hx with q | ⟨q1, q2⟩
        · exact .inl q
        · exact .inr ⟨List.mem_cons_of_mem _ q1, q2⟩
structure StayInv (p : Plan) (outs : List Int) (k : List Bool) (w : List Int) : Prop where
  len : (k.length : Int) = p.lines
  inp : ∀ l : Int, 0 ≤ l → l < p.many → k.getD l.toNat false = true
  snd : ∀ l : Int, 0 ≤ l → l < p.lines → k.getD l.toNat false = true → Kept p outs l
  wt : ∀ l ∈ w, p.many ≤ l ∧ l < p.lines ∧ Kept p outs l
  out : ∀ o ∈ outs, k.getD o.toNat false = true
  cl : ∀ y : Int, p.many ≤ y → y < p.lines → k.getD y.toNat false = true → y ∈ w ∨ ∀ s ∈ (gateN p y).srcs, k.getD s.toNat false = true
def stay0 (p : Plan) (outs : List Int) : List Bool := (List.range p.lines.toNat).map fun i : Nat => decide ((i : Int) < p.many) || decide ((i : Int) ∈ outs)
def fresh0 (p : Plan) (outs : List Int) : List Int := outs.filter fun l => decide (l ≥ p.many)
theorem stay0_get {p : Plan} {outs : List Int} {l : Int} (l0 : 0 ≤ l) (l1 : l < p.lines) : (stay0 p outs).getD l.toNat false = (decide (l < p.many) || decide (l ∈ outs)) := by
  unfold stay0
  rw [List.getD_eq_getElem?_getD, List.getElem?_map, List.getElem?_range (by omega)]
  show (decide (((l.toNat : Nat) : Int) < p.many) || decide (((l.toNat : Nat) : Int) ∈ outs)) = _
  rw [show ((l.toNat : Nat) : Int) = l by omega]
theorem stayInv0 {p : Plan} {outs : List Int} (v : Valid p) (ho : ∀ o ∈ outs, 0 ≤ o ∧ o < p.lines) : StayInv p outs (stay0 p outs) (fresh0 p outs) := by
  have m0 := v.m0
  have hl : 0 ≤ p.lines := by unfold Plan.lines; omega
  refine ⟨by unfold stay0; rw [List.length_map, List.length_range]; omega, fun l l0 l1 => ?_, fun l l0 l1 h => ?_, fun l h => ?_, fun o h => ?_, fun y y0 y1 h => ?_⟩
  · rw [stay0_get l0 (by unfold Plan.lines; omega), decide_eq_true l1]; rfl
  · rw [stay0_get l0 l1, Bool.or_eq_true] at h
    rcases h with h | h
    · exact .inp l0 (of_decide_eq_true h)
    · exact .out (of_decide_eq_true h)
  · obtain ⟨h1, h2⟩ := List.mem_filter.mp h
    have := of_decide_eq_true h2
    exact ⟨by omega, (ho l h1).2, .out h1⟩
  · rw [stay0_get (ho o h).1 (ho o h).2, decide_eq_true h, Bool.or_true]
  · rw [stay0_get (by omega) y1, decide_eq_false (show ¬ y < p.many by omega), Bool.false_or] at h
    exact .inl (List.mem_filter.mpr ⟨of_decide_eq_true h, decide_eq_true y0⟩)
def srcsAll (p : Plan) (w : List Int) : List Int := w.flatMap fun y => (gateN p y).srcs
theorem StayInv.turn {p : Plan} {outs : List Int} {k : List Bool} {w : List Int} (v : Valid p) (h : StayInv p outs k w) :
    StayInv p outs (markAll (k, []) (srcsAll p w)).1 (markAll (k, []) (srcsAll p w)).2 ∧ (markAll (k, []) (srcsAll p w)).2.length + cntF (markAll (k, []) (srcsAll p w)).1 = cntF k := by
  have m0 := v.m0
  have hlen := h.len
  have hss : ∀ s ∈ srcsAll p w, 0 ≤ s ∧ s < p.lines ∧ Kept p outs s := fun s hs => by
    obtain ⟨y, hy, hs2⟩ := List.mem_flatMap.mp hs
    obtain ⟨y0, y1, yk⟩ := h.wt y hy
    obtain ⟨_, hgm⟩ := gateN_get y0 y1
    obtain ⟨_, hsr, _⟩ := gate_ok (v.gate _ hgm)
    exact ⟨(hsr s hs2).1, (hsr s hs2).2, .src yk y0 y1 hs2⟩
  obtain ⟨a1, a2, a3, a4, a5, a6, a7⟩ := markAll_out (srcsAll p w) (k, []) fun s hs => by
    obtain ⟨s0, s1, _⟩ := hss s hs
    exact ⟨s0, by show s.toNat < k.length; omega⟩
  generalize markAll (k, []) (srcsAll p w) = r at *
  refine ⟨⟨by rw [a1]; exact hlen, fun l l0 l1 => a3 _ (h.inp l l0 l1), fun l l0 l1 hl => ?_, fun l hl => ?_, fun o ho => a3 _ (h.out o ho), fun y y0 y1 hy => ?_⟩, by rw [a2]; show 0 + cntF k = cntF k; omega⟩
  · rcases a5 _ hl with q | ⟨s, s1, s2, _⟩
    · exact h.snd l l0 l1 q
    · obtain ⟨s0, _, sk⟩ := hss s s1
      rw [show l = s by omega]; exact sk
  · rcases a7 l hl with q | ⟨q1, q2⟩
    · cases q
    · obtain ⟨s0, s1, sk⟩ := hss l q1
      refine ⟨?_, s1, sk⟩
      by_cases c : l < p.many
      · have := h.inp l s0 c
        rw [show (k, ([] : List Int)).1 = k from rfl, this] at q2; cases q2
      · omega
  · rcases a5 _ hy with q | ⟨s, s1, s2, s3⟩
    · right
      rcases h.cl y y0 y1 q with c | c
      · exact fun s hs => a4 s (List.mem_flatMap.mpr ⟨y, c, hs⟩)
      · exact fun s hs => a3 _ (c s hs)
    · obtain ⟨s0, _, _⟩ := hss s s1
      rw [show y = s by omega]; exact .inl s3
theorem StayInv.done {p : Plan} {outs : List Int} {k : List Bool} (v : Valid p) (ho : ∀ o ∈ outs, 0 ≤ o ∧ o < p.lines) (h : StayInv p outs k []) : ∀ l : Int, 0 ≤ l → l < p.lines → (k.getD l.toNat false = true ↔ Kept p outs l) :=
  kept_closed v ho h.inp h.snd h.out fun y y0 y1 hy => (h.cl y y0 y1 hy).elim (fun z => by cases z) id

/-! ### the trimmed plan -/
def plIn (st : List Int) (s : Int) : Int := (st.idxOf s : Int)
theorem idxOf_at : ∀ {st : List Int} {i : Nat} {s : Int}, st.Nodup → st[i]? = some s → st.idxOf s = i
  | [], i, s, _, h => by simp at h
  | x :: r, 0, s, _, h => by
    have : x = s := by simpa using h
    subst this
    exact List.idxOf_cons_self
  | x :: r, i + 1, s, nd, h => by
    obtain ⟨n1, n2⟩ := List.nodup_cons.mp nd
    have h2 : r[i]? = some s := by simpa using h
    have ih := idxOf_at n2 h2
    have hne : ¬ x = s := fun e => n1 (e ▸ List.mem_of_getElem? h2)
    rw [List.idxOf_cons, ih, beq_false_of_ne hne]; rfl
theorem idxOf_get {st : List Int} {s : Int} (nd : st.Nodup) (h : s ∈ st) : st[st.idxOf s]? = some s := by
  obtain ⟨i, hi, he⟩ := List.getElem_of_mem h
  have h2 : st[i]? = some s := by rw [List.getElem?_eq_getElem hi, he]
  rw [idxOf_at nd h2]; exact h2
def trimG (st : List Int) (g : Gate) : Gate := ⟨g.kind, g.srcs.map (plIn st), g.delay⟩
noncomputable def gateLs (p : Plan) (outs : List Int) : List Int := (keptL p outs).filter fun l => decide (l ≥ p.many)
noncomputable def trimP (p : Plan) (outs : List Int) : Plan := ⟨p.many, (gateLs p outs).map fun l => trimG (keptL p outs) (gateN p l)⟩
noncomputable def trimR (p : Plan) (outs : List Int) : Except Err (Plan × List Int) := match errPlan p with
  | some e => .error e
  | none => if (outs.all fun o => decide (0 ≤ o) && decide (o < p.lines)) = true then .ok (trimP p outs, keptL p outs) else .error .line
theorem trimR_ok {p : Plan} {outs : List Int} (v : Valid p) (ho : ∀ o ∈ outs, 0 ≤ o ∧ o < p.lines) : trimR p outs = .ok (trimP p outs, keptL p outs) := by
  unfold trimR
  rw [valid_iff.mpr v]
  have : (outs.all fun o => decide (0 ≤ o) && decide (o < p.lines)) = true := List.all_eq_true.mpr fun o h => by
    have := ho o h
    rw [decide_eq_true this.1, decide_eq_true this.2]; rfl
  simp only [this, if_true]
theorem trimR_line {p : Plan} {outs : List Int} (v : Valid p) {o : Int} (h : o ∈ outs) (hn : ¬ (0 ≤ o ∧ o < p.lines)) : trimR p outs = .error .line := by
  unfold trimR
  rw [valid_iff.mpr v]
  have : (outs.all fun o => decide (0 ≤ o) && decide (o < p.lines)) = false := List.all_eq_false.mpr ⟨o, h, by
    intro h2
    rw [Bool.and_eq_true] at h2
    exact hn ⟨of_decide_eq_true h2.1, of_decide_eq_true h2.2⟩⟩
  simp only [this]
  rfl
open Classical in
/-- the inputs, then the gates that stay -/
theorem keptL_split {p : Plan} {outs : List Int} (m0 : 0 ≤ p.many) : keptL p outs = ((List.range p.many.toNat).map fun i : Nat => (i : Int)) ++ gateLs p outs := by
  have e : keptL p outs = ((List.range p.many.toNat).map fun i : Nat => (i : Int)) ++ (((List.range p.gates.length).map (fun i => p.many.toNat + i)).filter fun i : Nat => decide (Kept p outs (i : Int))).map fun i : Nat => (i : Int) := by
    unfold keptL
    rw [show p.lines.toNat = p.many.toNat + p.gates.length by unfold Plan.lines; omega, List.range_add, List.filter_append, List.map_append]
    congr 2
    rw [List.filter_eq_self]
    intro i hi
    have := List.mem_range.mp hi
    exact decide_eq_true (.inp (by omega) (by omega))
  have e2 : gateLs p outs = (((List.range p.gates.length).map (fun i => p.many.toNat + i)).filter fun i : Nat => decide (Kept p outs (i : Int))).map fun i : Nat => (i : Int) := by
    unfold gateLs
    rw [e, List.filter_append]
    have z1 : (((List.range p.many.toNat).map fun i : Nat => (i : Int)).filter fun l => decide (l ≥ p.many)) = [] := by
      rw [List.filter_eq_nil_iff]
      intro l hl
      obtain ⟨i, hi, rfl⟩ := List.mem_map.mp hl
      have := List.mem_range.mp hi
      simp; omega
    rw [z1, List.nil_append, List.filter_eq_self]
    intro l hl
    obtain ⟨i, hi, rfl⟩ := List.mem_map.mp hl
    obtain ⟨j, hj, rfl⟩ := List.mem_map.mp (List.mem_filter.mp hi).1
    exact decide_eq_true (by omega)
  rw [← e2] at e
  exact e
theorem keptL_get {p : Plan} {outs : List Int} (m0 : 0 ≤ p.many) (i : Nat) : (keptL p outs)[p.many.toNat + i]? = (gateLs p outs)[i]? := by
  rw [keptL_split m0, List.getElem?_append_right (by rw [List.length_map, List.length_range]; omega), List.length_map, List.length_range]
  congr 1; omega
theorem keptL_inp {p : Plan} {outs : List Int} (m0 : 0 ≤ p.many) {l : Int} (l0 : 0 ≤ l) (l1 : l < p.many) : (keptL p outs)[l.toNat]? = some l := by
  rw [keptL_split m0, List.getElem?_append_left (by rw [List.length_map, List.length_range]; omega), List.getElem?_map, List.getElem?_range (by omega)]
  exact congrArg some (Int.toNat_of_nonneg l0)
theorem trim_lines {p : Plan} {outs : List Int} (m0 : 0 ≤ p.many) : (trimP p outs).lines = ((keptL p outs).length : Int) := by
  show p.many + (((gateLs p outs).map _).length : Int) = _
  rw [keptL_split m0, List.length_append, List.length_map, List.length_map, List.length_range]
  omega
theorem plIn_in {p : Plan} {outs : List Int} {s : Int} (h : s ∈ keptL p outs) : 0 ≤ plIn (keptL p outs) s ∧ plIn (keptL p outs) s < (keptL p outs).length := by
  have := List.idxOf_lt_length_of_mem h
  unfold plIn
  omega
/-- a gate of it -/
theorem trim_gate {p : Plan} {outs : List Int} (v : Valid p) (ho : ∀ o ∈ outs, 0 ≤ o ∧ o < p.lines) {i : Nat} {g : Gate} (h : (trimP p outs).gates[i]? = some g) :
    ∃ l, (gateLs p outs)[i]? = some l ∧ (keptL p outs)[p.many.toNat + i]? = some l ∧ p.many ≤ l ∧ l < p.lines ∧ g = trimG (keptL p outs) (gateN p l) ∧ ∀ s ∈ (gateN p l).srcs, s ∈ keptL p outs := by
  have h2 : ((gateLs p outs).map fun l => trimG (keptL p outs) (gateN p l))[i]? = some g := h
  rw [List.getElem?_map] at h2
  cases e : (gateLs p outs)[i]? with
  | none => rw [e] at h2; cases h2
  | some l =>
    rw [e] at h2
    obtain ⟨h3, h4⟩ := List.mem_filter.mp (List.mem_of_getElem? e)
    have hk := (mem_keptL v ho).mp h3
    have l0 := of_decide_eq_true h4
    have l1 := (hk.range v ho).2
    exact ⟨l, rfl, by rw [keptL_get v.m0]; exact e, l0, l1, (Option.some.inj h2).symm, fun s hs => (mem_keptL v ho).mpr (.src hk l0 l1 hs)⟩
theorem trim_valid {p : Plan} {outs : List Int} (v : Valid p) (ho : ∀ o ∈ outs, 0 ≤ o ∧ o < p.lines) : Valid (trimP p outs) := by
  have hl := trim_lines (outs := outs) v.m0
  have hk := keptL_len p outs
  have m0 := v.m0
  refine ⟨v.m0, v.m60, ?_, fun g hg => ?_⟩
  · have n2 := v.n200
    unfold Plan.lines at hl hk
    have e : (trimP p outs).many = p.many := rfl
    rw [e] at hl
    omega
  · obtain ⟨i, hi, he⟩ := List.getElem_of_mem hg
    obtain ⟨l, _, _, l0, l1, rfl, hs⟩ := trim_gate v ho (show (trimP p outs).gates[i]? = some g by rw [List.getElem?_eq_getElem hi, he])
    obtain ⟨_, hgm⟩ := gateN_get l0 l1
    obtain ⟨⟨lo, hi', hw, hlo, hhi⟩, _, hd⟩ := gate_ok (v.gate _ hgm)
    refine gate_err (lo := lo) (hi := hi') hw (by unfold trimG; simp only [List.length_map]; exact ⟨hlo, hhi⟩) (fun s hs2 => ?_) hd
    obtain ⟨s', hs', rfl⟩ := List.mem_map.mp hs2
    have := plIn_in (hs s' hs')
    rw [hl]; exact this
theorem trim_str {p : Plan} {outs : List Int} (v : Valid p) (ho : ∀ o ∈ outs, 0 ≤ o ∧ o < p.lines) (h : ∀ g ∈ p.gates, PyData.strOk g.kind = true) : ∀ g ∈ (trimP p outs).gates, PyData.strOk g.kind = true := fun g hg => by
  obtain ⟨i, hi, he⟩ := List.getElem_of_mem hg
  obtain ⟨l, _, _, l0, l1, rfl, _⟩ := trim_gate v ho (show (trimP p outs).gates[i]? = some g by rw [List.getElem?_eq_getElem hi, he])
  show PyData.strOk (gateN p l).kind = true
  exact h _ (gateN_get l0 l1).2
theorem free_of_order {p : Plan} {f : List Int} (h : orderM p = .ok f) : Free p := by
  obtain ⟨v, _, _⟩ := order_ok h
  obtain ⟨nd, hm⟩ := order_mem h
  refine ⟨fun l => if l < p.many then 0 else f.idxOf l + 1, fun i g hg s hs => ?_⟩
  have hi := (List.getElem?_eq_some_iff.mp hg).1
  have m0 := v.m0
  have hmem : p.many + (i : Int) ∈ f := (hm _).mpr ⟨by omega, by unfold Plan.lines; omega⟩
  have hg2 := idxOf_get nd hmem
  have egt : gateN p (p.many + (i : Int)) = g := by
    unfold gateN
    rw [List.getD_eq_getElem?_getD, show (p.many + (i : Int) - p.many).toNat = i by omega, hg]; rfl
  obtain ⟨s0, s1, hd⟩ := order_srcs h hg2 s (by rw [egt]; exact hs)
  simp only [if_neg (show ¬ p.many + (i : Int) < p.many by omega)]
  by_cases c : s < p.many
  · rw [if_pos c]; omega
  · rw [if_neg c]
    rcases hd with hd | hd
    · omega
    · obtain ⟨k, hk, hke⟩ := List.getElem_of_mem hd
      rw [List.length_take] at hk
      rw [List.getElem_take] at hke
      have := idxOf_at nd (show f[k]? = some s by rw [List.getElem?_eq_getElem (by omega), hke])
      omega
theorem trim_free {p : Plan} {outs : List Int} (v : Valid p) (ho : ∀ o ∈ outs, 0 ≤ o ∧ o < p.lines) (h : Free p) : Free (trimP p outs) := by
  obtain ⟨rk, hr⟩ := h
  have m0 := v.m0
  have nd := keptL_nodup p outs
  refine ⟨fun l => rk ((keptL p outs).getD l.toNat 0), fun i g hg s hs => ?_⟩
  obtain ⟨l, _, hl, l0, l1, rfl, hsk⟩ := trim_gate v ho hg
  obtain ⟨s', hs', rfl⟩ := List.mem_map.mp hs
  have e1 : (keptL p outs).getD (plIn (keptL p outs) s').toNat 0 = s' := by
    unfold plIn
    rw [Int.toNat_natCast, List.getD_eq_getElem?_getD, idxOf_get nd (hsk s' hs')]; rfl
  have e2 : (keptL p outs).getD ((trimP p outs).many + (i : Int)).toNat 0 = l := by
    show (keptL p outs).getD (p.many + (i : Int)).toNat 0 = l
    rw [show (p.many + (i : Int)).toNat = p.many.toNat + i by omega, List.getD_eq_getElem?_getD, hl]; rfl
  simp only [e1, e2]
  obtain ⟨hg1, _⟩ := gateN_get l0 l1
  have := hr _ _ hg1 s' hs'
  rw [show p.many + (((l - p.many).toNat : Nat) : Int) = l by omega] at this
  exact this
theorem trim_solves {p : Plan} {outs : List Int} {ins vs : List Bool} (v : Valid p) (ho : ∀ o ∈ outs, 0 ≤ o ∧ o < p.lines) (h : Solves p ins vs) : Solves (trimP p outs) ins ((keptL p outs).map fun l => vs.getD l.toNat false) := by
  have m0 := v.m0
  have nd := keptL_nodup p outs
  have hl := trim_lines (outs := outs) m0
  have get : ∀ (i : Nat) l, (keptL p outs)[i]? = some l → ((keptL p outs).map fun l => vs.getD l.toNat false).getD i false = vs.getD l.toNat false := fun i l hi => by
    rw [List.getD_eq_getElem?_getD, List.getElem?_map, hi]; rfl
  refine ⟨by rw [List.length_map, hl], fun l l0 l1 => ?_, fun l l0 l1 => ?_⟩
  · rw [get _ l (keptL_inp m0 l0 l1)]
    exact h.ins l l0 l1
  · have l0' : p.many ≤ l := l0
    have hi : (l - p.many).toNat < (trimP p outs).gates.length := by
      have : (trimP p outs).lines = p.many + ((trimP p outs).gates.length : Int) := rfl
      omega
    obtain ⟨x, _, hx, x0, x1, hg, hsk⟩ := trim_gate v ho (List.getElem?_eq_getElem hi)
    rw [show p.many.toNat + (l - p.many).toNat = l.toNat by omega] at hx
    rw [get _ x hx, h.gat x x0 x1]
    have egt : gateN (trimP p outs) l = trimG (keptL p outs) (gateN p x) := by
      show (trimP p outs).gates.getD (l - p.many).toNat ⟨"", [], 0⟩ = _
      rw [List.getD_eq_getElem?_getD, List.getElem?_eq_getElem hi, ← hg]; rfl
    unfold ansF gateV
    rw [egt]
    show answerV (gateN p x).kind (bitsOf vs (gateN p x).srcs) = answerV (gateN p x).kind (bitsOf _ ((gateN p x).srcs.map (plIn (keptL p outs))))
    congr 1
    unfold bitsOf
    rw [List.map_map]
    refine List.map_congr_left fun s hs => ?_
    show vs.getD s.toNat false = ((keptL p outs).map fun l => vs.getD l.toNat false).getD (plIn (keptL p outs) s).toNat false
    unfold plIn
    rw [Int.toNat_natCast, get _ s (idxOf_get nd (hsk s hs))]
/-- settled, it has the values of the whole -/
theorem trim_settled {p : Plan} {outs : List Int} {ins : List Bool} (v : Valid p) (ho : ∀ o ∈ outs, 0 ≤ o ∧ o < p.lines) (hr : ringedB p = false) (hi : (ins.length : Int) = p.many) :
    settledR (trimP p outs) ins = .ok ((keptL p outs).map fun l => (settleBy p ins (goneM p).1).getD l.toNat false) := by
  have o1 := order_of_free v hr
  have v2 := trim_valid v ho
  have o2 := order_free v2 (trim_free v ho (free_of_order o1))
  rw [settled_ok o2 hi]
  congr 1
  exact solves_unique o2 (settle_solves o2 hi) (trim_solves v ho (settle_solves o1 hi))
/-! ### dicts, insert, index within comprehensions -/
def rInsert : V → List V → Hp → VK → Prop := fun x vs H Q => ∃ (l : Addr) (xs : List V) (i : Int) (y : V), x = .ref l ∧ vs = [.int i, y] ∧ H l = some (.lst xs) ∧ xs.length < sizeLine ∧ 0 ≤ i ∧ i < 2 ^ 63 ∧
    Q .non (upd H l (.lst (xs.take i.toNat ++ [y] ++ xs.drop i.toNat)))
theorem mt_insertS {X : Cx} : MtR X "list.insert" rInsert := mt_insert
theorem mt_indexK (K : PySem.W.Frag) {X : Cx} (h : X.K = K := by rfl) : MtR X "list.index" (rIndex K) := h ▸ mt_index
section
variable {X : Cx} {o e : Expr} {es : List Expr} {to : TE} {t : TA} {name : Str} {apos cpos : Pos} {T id : String} {r : V → List V → Hp → VK → Prop}
theorem pe_bmK (K : PySem.W.Frag) (pa : PlainAttrs T) (slot : Slot T name id) (hty : typeOf (.builtin id) = pure (.type "method_descriptor")) (hm : MtR X id r) (ho : PE X o to) (ha : PA X (e :: es) t) (h : X.K = K := by rfl)
    (hbase : attributeBase o name X.env (eval o X.env) = eval o X.env := by rfl)
    (hfew : ((backTo cpos (starEach (e :: es) X.env)).all (fun x => !x.1) && (backToKw cpos (keywordEach [] X.env)).all (fun x => x.1.isSome) && decide ((e :: es).length + ([] : List Keyword).length + (if ([] : List Keyword).isEmpty then 0 else 1) < 30)) = true := by rfl)
    (hline : (apos.endLine == cpos.line) = true := by rfl) (hs : starEach (e :: es) X.env = (false, eval e X.env) :: starEach es X.env := by rfl) (hplain : (backTo cpos (starEach es X.env)).any (·.1) = false := by rfl) :
    PE X (.Call (.Attribute o name apos) (e :: es) [] cpos) (tBM K T r to t) := h ▸ pe_bm pa slot hty hm ho ha hbase hfew hline hs hplain
end
section
variable {σ : L2.St} {G : Hp} {td ty tv ta : TE} {a : Addr} {kvs : List (Key × V)} {k : Key} {v : V} {D : Ends} {tz : TS} {K : PySem.W.Frag} {tb : TE} {xs : List V} {i : Int} {l : Addr}
theorem ep_dnew : EvP tDNewK σ G fun v G' => ∃ a, v = .ref a ∧ G a = none ∧ G' = upd G a (.dK []) := fun H e Q q a ha => q _ (upd G a (.dK [])) _ (Ex.new (e.none ha)) (Ex.put e) (Ex.new ha) ⟨a, rfl, e.none ha, rfl⟩
theorem ev_dget (hd : Ev td σ G (.ref a)) (hi : Ev ty σ G (kV k)) (hl : G a = some (.dK kvs)) (hv : valV kvs k = some v) : Ev (tDGet td ty) σ G v := fun H e Q q => hd H e _ fun H1 e1 => hi H1 (e.trans e1) _ fun H2 e2 => ⟨a, v, rfl, by rw [← hv]; exact DGet.k (((e.trans e1).trans e2) _ _ hl), q H2 (e1.trans e2)⟩
theorem go_dput (hv : Ev tv σ G v) (hd : Ev td σ G (.ref a)) (hi : Ev ty σ G (kV k)) (hl : G a = some (.dK kvs)) (hz : kvs.length < 100000) (c : Go tz D σ (upd G a (.dK (putK kvs k v)))) : Go (tSeq (sDPut td ty tv) tz) D σ G := fun H e =>
  hv H e _ fun H1 e1 => hd H1 (e.trans e1) _ fun H2 e2 => hi H2 ((e.trans e1).trans e2) _ fun H3 e3 => ⟨a, _, rfl, DPut.k ((((e.trans e1).trans e2).trans e3) _ _ hl) (sz_lt hz), c _ (Ex.put (((e.trans e1).trans e2).trans e3))⟩
theorem go_insert (ha : Ev ta σ G (.ref l)) (hl : G l = some (.lst xs)) (hi : Ev tb σ G (.int i)) (hv : Ev tv σ G v) (hz : xs.length < 100000) (h0 : 0 ≤ i) (h1 : i < 2 ^ 63) (c : Go tz D σ (upd G l (.lst (xs.take i.toNat ++ [v] ++ xs.drop i.toNat)))) :
    Go (tSeq (tDrop (tBM K "list" rInsert ta (tCons tb (tCons tv tNil)))) tz) D σ G := fun H e => ha H e _ fun H1 e1 => ⟨Or.inl ⟨rfl, xs, sq_of (e1 l _ (e l _ hl))⟩, hi H1 (e.trans e1) _ fun H2 e2 => hv H2 ((e.trans e1).trans e2) _ fun H3 e3 =>
  ⟨l, xs, i, v, rfl, rfl, (((e.trans e1).trans e2).trans e3) _ _ hl, sz_lt hz, h0, h1, c _ (Ex.put (((e.trans e1).trans e2).trans e3))⟩⟩
end
theorem putK_len (kvs : List (Key × V)) (k : Key) (v : V) : (putK kvs k v).length ≤ kvs.length + 1 := by
  unfold putK
  split
  · rw [List.length_map]; omega
  · rw [List.length_append]; simp
theorem gateD_shaped {g : Gate} (h : PyData.strOk g.kind = true) : SeqAt.shaped (gateD g) = true := by
  unfold SeqAt.shaped
  rw [gateD_lay h]
  have := gateD_deep g
  simp; omega

def topS (i : Nat) : Stmt := PySem.Challenge.pw_signalgraph_k11_whole_trimmed.main.body.getD i (.Pass ⟨0, 0, 0, 0⟩)
abbrev s_wants : Stmt := topS 12
abbrev s_answer : Stmt := topS 13
abbrev s_checked_gate : Stmt := topS 18
abbrev s_checked : Stmt := topS 19
abbrev s_kept_lines : Stmt := topS 20
abbrev s_trimmed : Stmt := topS 21
abbrev s_ready : Stmt := topS 23
abbrev s_gone_through : Stmt := topS 24
abbrev s_order : Stmt := topS 25
abbrev s_answered : Stmt := topS 27
abbrev s_settled : Stmt := topS 28
abbrev s_l_cell_at : Stmt := topS 30
abbrev s_l_whole : Stmt := topS 31
abbrev s_l_mixed : Stmt := topS 32
abbrev s_l_truths : Stmt := topS 33
abbrev s_l_many : Stmt := topS 34
abbrev s_l_gate_by : Stmt := topS 35
abbrev s_l_gates_by : Stmt := topS 36
abbrev s_l_place : Stmt := topS 37
abbrev s_l_turned : Stmt := topS 38
abbrev s_l_loose : Stmt := topS 39
abbrev s_l_plan_by : Stmt := topS 40
abbrev s_l_answered : Stmt := topS 41
abbrev s_l_settled : Stmt := topS 42
abbrev s_l_ringed : Stmt := topS 43
abbrev s_l_numbers : Stmt := topS 44
abbrev s_l_same_plan : Stmt := topS 45
abbrev s_l_refused : Stmt := topS 46
abbrev s_l_stays : Stmt := topS 47
abbrev s_law : Stmt := topS 48
theorem sc_wants : FnScope ["kind", "least"] ["kind"] (defScope s_wants) := ⟨rfl, rfl, rfl, by decide +kernel, rfl, by decide +kernel, by decide +kernel⟩
theorem sc_answer : FnScope ["kind", "given", "bounds", "many", "one"] ["kind", "given"] (defScope s_answer) := ⟨rfl, rfl, rfl, by decide +kernel, rfl, by decide +kernel, by decide +kernel⟩
theorem sc_checked_gate : FnScope ["gate", "lines", "bounds", "source"] ["gate", "lines"] (defScope s_checked_gate) := ⟨rfl, rfl, rfl, by decide +kernel, rfl, by decide +kernel, by decide +kernel⟩
theorem sc_checked : FnScope ["plan", "lines", "gate"] ["plan"] (defScope s_checked) := ⟨rfl, rfl, rfl, by decide +kernel, rfl, by decide +kernel, by decide +kernel⟩
theorem sc_kept_lines : FnScope ["plan", "outs", "line", "kept", "waiting", "source"] ["plan", "outs"] (defScope s_kept_lines) := ⟨rfl, rfl, rfl, by decide +kernel, rfl, by decide +kernel, by decide +kernel⟩
theorem sc_trimmed : FnScope ["plan", "outs", "lines", "line", "kept", "stay", "places", "place", "gates", "gate", "source"] ["plan", "outs"] (defScope s_trimmed) := ⟨rfl, rfl, rfl, by decide +kernel, rfl, by decide +kernel, by decide +kernel⟩
theorem sc_ready : FnScope ["plan", "done", "place", "gate", "source"] ["plan", "done"] (defScope s_ready) := ⟨rfl, rfl, rfl, by decide +kernel, rfl, by decide +kernel, by decide +kernel⟩
theorem sc_gone_through : FnScope ["plan", "found", "line", "done"] ["plan"] (defScope s_gone_through) := ⟨rfl, rfl, rfl, by decide +kernel, rfl, by decide +kernel, by decide +kernel⟩
theorem sc_order : FnScope ["plan", "found"] ["plan"] (defScope s_order) := ⟨rfl, rfl, rfl, by decide +kernel, rfl, by decide +kernel, by decide +kernel⟩
theorem sc_answered : FnScope ["plan", "values", "line", "gate", "source"] ["plan", "values", "line"] (defScope s_answered) := ⟨rfl, rfl, rfl, by decide +kernel, rfl, by decide +kernel, by decide +kernel⟩
theorem sc_settled : FnScope ["plan", "ins", "values", "line"] ["plan", "ins"] (defScope s_settled) := ⟨rfl, rfl, rfl, by decide +kernel, rfl, by decide +kernel, by decide +kernel⟩
theorem sc_l_cell_at : FnScope ["_law_script", "_law_k"] ["_law_script", "_law_k"] (defScope s_l_cell_at) := ⟨rfl, rfl, rfl, by decide +kernel, rfl, by decide +kernel, by decide +kernel⟩
theorem sc_l_whole : FnScope ["_law_found"] ["_law_found"] (defScope s_l_whole) := ⟨rfl, rfl, rfl, by decide +kernel, rfl, by decide +kernel, by decide +kernel⟩
theorem sc_l_mixed : FnScope ["_law_cell", "_law_k", "_law_many_here", "_law_some"] ["_law_cell", "_law_k", "_law_many_here"] (defScope s_l_mixed) := ⟨rfl, rfl, rfl, by decide +kernel, rfl, by decide +kernel, by decide +kernel⟩
theorem sc_l_truths : FnScope ["_law_cell", "_law_many_here", "_law_k"] ["_law_cell", "_law_many_here"] (defScope s_l_truths) := ⟨rfl, rfl, rfl, by decide +kernel, rfl, by decide +kernel, by decide +kernel⟩
theorem sc_l_many : FnScope ["_law_cell"] ["_law_cell"] (defScope s_l_many) := ⟨rfl, rfl, rfl, by decide +kernel, rfl, by decide +kernel, by decide +kernel⟩
theorem sc_l_gate_by : FnScope ["_law_cell", "_law_below", "_law_most", "_law_way", "_law_many_here", "_law_sources", "_law_kind", "_law_k"] ["_law_cell", "_law_below", "_law_most"] (defScope s_l_gate_by) := ⟨rfl, rfl, rfl, by decide +kernel, rfl, by decide +kernel, by decide +kernel⟩
theorem sc_l_gates_by : FnScope ["_law_script", "_law_many_here", "_law_most", "_law_gates", "_law_cells", "_law_far", "_law_k", "_law_cell"] ["_law_script", "_law_many_here", "_law_most"] (defScope s_l_gates_by) := ⟨rfl, rfl, rfl, by decide +kernel, rfl, by decide +kernel, by decide +kernel⟩
theorem sc_l_place : FnScope ["_law_k", "_law_count", "_law_turn"] ["_law_k", "_law_count", "_law_turn"] (defScope s_l_place) := ⟨rfl, rfl, rfl, by decide +kernel, rfl, by decide +kernel, by decide +kernel⟩
theorem sc_l_turned : FnScope ["_law_many_here", "_law_gates", "_law_turn", "_law_made", "_law_k", "_law_sources", "_law_source"] ["_law_many_here", "_law_gates", "_law_turn"] (defScope s_l_turned) := ⟨rfl, rfl, rfl, by decide +kernel, rfl, by decide +kernel, by decide +kernel⟩
theorem sc_l_loose : FnScope ["_law_script", "_law_many_here", "_law_most", "_law_cells", "_law_far", "_law_count", "_law_ringed_here", "_law_k", "_law_cell"] ["_law_script", "_law_many_here", "_law_most"] (defScope s_l_loose) := ⟨rfl, rfl, rfl, by decide +kernel, rfl, by decide +kernel, by decide +kernel⟩
theorem sc_l_plan_by : FnScope ["_law_script", "_law_most", "_law_many_here"] ["_law_script", "_law_most"] (defScope s_l_plan_by) := ⟨rfl, rfl, rfl, by decide +kernel, rfl, by decide +kernel, by decide +kernel⟩
theorem sc_l_answered : FnScope ["_law_kind", "_law_given", "_law_many_here", "_law_one"] ["_law_kind", "_law_given"] (defScope s_l_answered) := ⟨rfl, rfl, rfl, by decide +kernel, rfl, by decide +kernel, by decide +kernel⟩
theorem sc_l_settled : FnScope ["_law_plan", "_law_ins", "_law_values", "_law_line", "_law_due", "_law_gate", "_law_source"] ["_law_plan", "_law_ins", "_law_values"] (defScope s_l_settled) := ⟨rfl, rfl, rfl, by decide +kernel, rfl, by decide +kernel, by decide +kernel⟩
theorem sc_l_ringed : FnScope ["_law_plan", "_law_line", "_law_done", "_law_turn", "_law_source"] ["_law_plan"] (defScope s_l_ringed) := ⟨rfl, rfl, rfl, by decide +kernel, rfl, by decide +kernel, by decide +kernel⟩
theorem sc_l_numbers : FnScope ["_law_found", "_law_due", "_law_k"] ["_law_found", "_law_due"] (defScope s_l_numbers) := ⟨rfl, rfl, rfl, by decide +kernel, rfl, by decide +kernel, by decide +kernel⟩
theorem sc_l_same_plan : FnScope ["_law_found", "_law_due", "_law_k", "_law_gate", "_law_one"] ["_law_found", "_law_due"] (defScope s_l_same_plan) := ⟨rfl, rfl, rfl, by decide +kernel, rfl, by decide +kernel, by decide +kernel⟩
theorem sc_l_refused : FnScope ["_law_plan", "_law_outs"] ["_law_plan", "_law_outs"] (defScope s_l_refused) := ⟨rfl, rfl, rfl, by decide +kernel, rfl, by decide +kernel, by decide +kernel⟩
theorem sc_l_stays : FnScope ["_law_plan", "_law_outs", "_law_line", "_law_stays_here", "_law_fresh", "_law_more", "_law_source"] ["_law_plan", "_law_outs"] (defScope s_l_stays) := ⟨rfl, rfl, rfl, by decide +kernel, rfl, by decide +kernel, by decide +kernel⟩
theorem sc_law : FnScope ["_law_script", "_law_plan", "_law_lines", "_law_cell", "_law_asked", "_law_outs", "_law_handed", "_law_found", "_law_stays_here", "_law_gates", "_law_line", "_law_gate", "_law_ins", "_law_values", "_law_due", "_law_k", "_law_source"] ["_law_script"] (defScope s_law) := ⟨rfl, rfl, rfl, by decide +kernel, rfl, by decide +kernel, by decide +kernel⟩
/-- what the top has left -/
structure Txt (K : PySem.W.Frag) (w : World) (mg : Str → Option Value) (A : Ads) : Prop where
  n_range : mg "range" = none
  n_len : mg "len" = none
  n_all : mg "all" = none
  n_any : mg "any" = none
  n_list : mg "list" = none
  n_tuple : mg "tuple" = none
  n_int : mg "int" = none
  n_bool : mg "bool" = none
  n_str : mg "str" = none
  n_isinstance : mg "isinstance" = none
  n_enumerate : mg "enumerate" = none
  n_ValueError : mg "ValueError" = none
  c_MANY_SOURCES : ∃ u, mg "MANY_SOURCES" = some u ∧ RelV (.int 9) u
  c_MANY_INPUTS : ∃ u, mg "MANY_INPUTS" = some u ∧ RelV (.int 60) u
  c_MANY_GATES : ∃ u, mg "MANY_GATES" = some u ∧ RelV (.int 200) u
  c_MOST_DELAY : ∃ u, mg "MOST_DELAY" = some u ∧ RelV (.int 60) u
  c_LEAST : mg "LEAST" = some (.ref A.LEAST)
  d_LEAST : LeastAt K w A.LEAST
  g_SignalError : mg "SignalError" = some (.ref A.SignalError)
  x_SignalError : PySem.W.excIn K A.SignalError [.type "ValueError", .type "Exception", .type "BaseException", .type "object"] "ValueError.__new__" = true
  k_SignalError : PySem.W.keepIn K (.ref A.SignalError) = true
  b_SignalError : PySem.W.subIn K (.ref A.SignalError) (.type "BaseException") = some true
  t_SignalError : PySem.W.typeIn K (.ref A.SignalError) = some (.type "type")
  g_NoSize : mg "NoSize" = some (.ref A.NoSize)
  x_NoSize : PySem.W.excIn K A.NoSize [.type "ValueError", .type "Exception", .type "BaseException", .type "object"] "ValueError.__new__" = true
  k_NoSize : PySem.W.keepIn K (.ref A.NoSize) = true
  b_NoSize : PySem.W.subIn K (.ref A.NoSize) (.type "BaseException") = some true
  t_NoSize : PySem.W.typeIn K (.ref A.NoSize) = some (.type "type")
  g_NoKind : mg "NoKind" = some (.ref A.NoKind)
  x_NoKind : PySem.W.excIn K A.NoKind [.type "ValueError", .type "Exception", .type "BaseException", .type "object"] "ValueError.__new__" = true
  k_NoKind : PySem.W.keepIn K (.ref A.NoKind) = true
  b_NoKind : PySem.W.subIn K (.ref A.NoKind) (.type "BaseException") = some true
  t_NoKind : PySem.W.typeIn K (.ref A.NoKind) = some (.type "type")
  g_NoSources : mg "NoSources" = some (.ref A.NoSources)
  x_NoSources : PySem.W.excIn K A.NoSources [.type "ValueError", .type "Exception", .type "BaseException", .type "object"] "ValueError.__new__" = true
  k_NoSources : PySem.W.keepIn K (.ref A.NoSources) = true
  b_NoSources : PySem.W.subIn K (.ref A.NoSources) (.type "BaseException") = some true
  t_NoSources : PySem.W.typeIn K (.ref A.NoSources) = some (.type "type")
  g_NoLine : mg "NoLine" = some (.ref A.NoLine)
  x_NoLine : PySem.W.excIn K A.NoLine [.type "ValueError", .type "Exception", .type "BaseException", .type "object"] "ValueError.__new__" = true
  k_NoLine : PySem.W.keepIn K (.ref A.NoLine) = true
  b_NoLine : PySem.W.subIn K (.ref A.NoLine) (.type "BaseException") = some true
  t_NoLine : PySem.W.typeIn K (.ref A.NoLine) = some (.type "type")
  g_NoDelay : mg "NoDelay" = some (.ref A.NoDelay)
  x_NoDelay : PySem.W.excIn K A.NoDelay [.type "ValueError", .type "Exception", .type "BaseException", .type "object"] "ValueError.__new__" = true
  k_NoDelay : PySem.W.keepIn K (.ref A.NoDelay) = true
  b_NoDelay : PySem.W.subIn K (.ref A.NoDelay) (.type "BaseException") = some true
  t_NoDelay : PySem.W.typeIn K (.ref A.NoDelay) = some (.type "type")
  g_NoValues : mg "NoValues" = some (.ref A.NoValues)
  x_NoValues : PySem.W.excIn K A.NoValues [.type "ValueError", .type "Exception", .type "BaseException", .type "object"] "ValueError.__new__" = true
  k_NoValues : PySem.W.keepIn K (.ref A.NoValues) = true
  b_NoValues : PySem.W.subIn K (.ref A.NoValues) (.type "BaseException") = some true
  t_NoValues : PySem.W.typeIn K (.ref A.NoValues) = some (.type "type")
  g_Ringed : mg "Ringed" = some (.ref A.Ringed)
  x_Ringed : PySem.W.excIn K A.Ringed [.type "ValueError", .type "Exception", .type "BaseException", .type "object"] "ValueError.__new__" = true
  k_Ringed : PySem.W.keepIn K (.ref A.Ringed) = true
  b_Ringed : PySem.W.subIn K (.ref A.Ringed) (.type "BaseException") = some true
  t_Ringed : PySem.W.typeIn K (.ref A.Ringed) = some (.type "type")
  m_NoSize_NoLine : PySem.W.exmOne K (.ref A.NoSize) (.ref A.NoLine) = some false
  m_NoKind_NoLine : PySem.W.exmOne K (.ref A.NoKind) (.ref A.NoLine) = some false
  m_NoSources_NoLine : PySem.W.exmOne K (.ref A.NoSources) (.ref A.NoLine) = some false
  m_NoLine_NoLine : PySem.W.exmOne K (.ref A.NoLine) (.ref A.NoLine) = some true
  m_NoDelay_NoLine : PySem.W.exmOne K (.ref A.NoDelay) (.ref A.NoLine) = some false
  m_NoValues_NoLine : PySem.W.exmOne K (.ref A.NoValues) (.ref A.NoLine) = some false
  m_Ringed_NoLine : PySem.W.exmOne K (.ref A.Ringed) (.ref A.NoLine) = some false

local macro_rules | `(tactic| walk_at "cl") => `(tactic| first | exact ClsV.ty _ | exact ClsV.own _)
local macro_rules | `(tactic| walk_at "ty") => `(tactic| first | exact .base (.int _) | exact .base (.bl _) | exact .base (.str _) | exact .base .non | exact ty_list (by with_reducible assumption) | exact ty_tuple (by with_reducible assumption))
local macro_rules | `(tactic| walk_at "sd") => `(tactic| first | with_reducible assumption | rfl | omega | decide)
local macro_rules | `(tactic| walk_at "rv") => `(tactic| first
  | with_reducible exact rv_I0
  | ((with_reducible refine' rv_I ?c); (case c => first | omega | exact ⟨by omega, by omega⟩ | exact Or.inr ⟨by omega, by omega⟩ | exact Or.inl ⟨by omega, by omega⟩ | walk_at "sd"))
  | with_reducible exact rv_eqI
  | with_reducible exact rv_eqS
  | with_reducible exact rv_eqB
  | with_reducible exact rv_neI
  | with_reducible exact rv_neS
  | with_reducible exact rv_neB
  | with_reducible exact rv_notN
  | with_reducible exact rv_isN
  | ((with_reducible refine' rv_ixL ?a ?b); (case a => walk_at "sd"); (case b => walk_at "sd"))
  | ((with_reducible refine' rv_ixT ?a ?b); (case a => walk_at "sd"); (case b => walk_at "sd")))
local macro_rules | `(tactic| walk_at "ev") => `(tactic| first
  | with_reducible exact ev_c
  | ((with_reducible refine' ev_var ?a); (case a => rfl))
  | with_reducible assumption
  | ((with_reducible refine' ev_op ?a ?b ?c); (case a => walk_at "ev"); (case b => walk_at "ev"); (case c => walk_at "rv"))
  | ((with_reducible refine' ev_un ?a ru_neg); (case a => walk_at "ev"))
  | ((with_reducible refine' ev_callS ?a ?b); (case a => walk_at "ea"); (case b => walk_at "sv"))
  | ((with_reducible refine' ev_chI ?a ?b ?c); (case a => walk_at "ev"); (case b => walk_at "ev"); (case c => walk_at "ev"))
  | ((with_reducible refine' ev_len ?a ?b); (case a => walk_at "ev"); (case b => walk_at "sd"))
  | ((with_reducible refine' ev_lenT ?a ?b); (case a => walk_at "ev"); (case b => walk_at "sd"))
  | ((with_reducible refine' ev_isi ?a ?b ?c ?d ?e); (case a => walk_at "ev"); (case b => walk_at "ev"); (case c => walk_at "cl"); (case d => walk_at "ty"); (case e => exact kit_ty (by decide +kernel)))
  | ((with_reducible refine' ev_andV ?a (fun _ => ?b)); (case a => walk_at "ev"); (case b => walk_at "ev"))
  | ((with_reducible refine' ev_orV ?a (fun _ => ?b)); (case a => walk_at "ev"); (case b => walk_at "ev"))
  | ((with_reducible refine' ev_notV ?a); (case a => walk_at "ev"))
  | ((with_reducible refine' ev_all ?a ?b); (case a => walk_at "ev"); (case b => walk_at "sd"))
  | ((with_reducible refine' ev_any ?a ?b); (case a => walk_at "ev"); (case b => walk_at "sd")))
local macro_rules | `(tactic| walk_at "et") => `(tactic| first
  | ((with_reducible refine' et_test ?a); (case a => walk_at "ev"))
  | ((with_reducible refine' et_B ?a); (case a => walk_at "ev"))
  | ((with_reducible refine' et_not ?a); (case a => walk_at "et"))
  | ((with_reducible refine' et_and ?a (fun _ => ?b)); (case a => walk_at "et"); (case b => walk_at "et"))
  | ((with_reducible refine' et_or ?a (fun _ => ?b)); (case a => walk_at "et"); (case b => walk_at "et"))
  | with_reducible assumption)
local macro_rules | `(tactic| walk_at "ea") => `(tactic| first
  | with_reducible exact ea_nil
  | ((with_reducible refine' ea_cons ?a ?b); (case a => walk_at "ev"); (case b => walk_at "ea")))
local macro_rules | `(tactic| walk_at "try") => `(tactic| (refine go_raw fun _ e_ => ?_; dsimp only; refine Go.app ?_ e_; clear e_))

section
variable {P : Program} {w : World} {K : PySem.W.Frag} {mg : Str → Option Value} {base : Heap} {A : Ads}
def sp_l_cell_at (K : PySem.W.Frag) (A : Ads) : Sp := fun vs H Q E => ∃ a ns k, vs = [.ref a, .int k] ∧ SqL K H a (ns.map V.int) ∧ 0 ≤ k ∧ RetV (.int (cell ns k)) H Q
theorem sv_cell_at {K : PySem.W.Frag} {A : Ads} {G : Hp} {a : Addr} {ns : List Int} {k : Int} (h : SqL K G a (ns.map V.int)) (h0 : 0 ≤ k) : SpV (sp_l_cell_at K A) [.ref a, .int k] G (.int (cell ns k)) := fun _ e _ q _ =>
  ⟨a, ns, k, rfl, ex_l e h, h0, q⟩
theorem ok_l_cell_at {f : Addr} {fd : FuncData} (F : Fun K "_law_cell_at" "_law_cell_at" s_l_cell_at f fd) (T : Txt K w mg A)  : FnOk P w K mg base (L2.CX P w) 1 f fd ["_law_script", "_law_k"] (sp_l_cell_at K A) := by
  refine F.okX sc_l_cell_at (fun vs H Q E h => ?_) (fun cdv A_ outer s H vs Q E hr h => ?_)
  · obtain ⟨a, ns, k, rfl, _⟩ := h; rfl
  · obtain ⟨a, ns, k, rfl, hS, h0, q⟩ := h
    refine ⟨_, (pss_cons (ps_if (pt_cmpR op_lt (pv 1) (pe_callB (c_len K) (by rfl) T.n_len PySem.boot_len (pa_cons (pv 0) pa_nil)) (nomark _)) (pss_cons (ps_ret (pe_ix (ixL K) (pv 0) (pv 1) (fun _ _ => rfl))) pss_nil) pss_nil) (pss_cons (ps_ret pe_int) pss_nil)), ?_⟩
    try dsimp only [cxOf, Cx.blk]
    refine Go.start (σ := [some (.ref a), some (.int k)]) ?_
    have hl : (ns.map V.int).length = ns.length := List.length_map _
    refine go_when (b := decide (k < (ns.length : Int))) (et_test (ev_is (ev_op (by walk_at "ev") (ev_len (ev_var rfl) hS) rv_I0) (by rw [hl]))) (fun h => ?_) (fun h => ?_)
    · have h1 : k < ns.length := of_decide_eq_true h
      exact go_ret (ev_op (ev_var rfl) (ev_var rfl) (rv_ixL hS (at_map V.int ns 0 h0 h1))) fun H1 e1 => q H1 e1
    · have h1 : ¬ k < ns.length := of_decide_eq_false h
      refine go_ret ev_c fun H1 e1 => ?_
      have e2 : cell ns k = 0 := by
        unfold cell
        rw [List.getD_eq_getElem?_getD, List.getElem?_eq_none (by omega)]; rfl
      have q2 := q H1 e1
      rw [e2] at q2
      exact q2

end
local macro_rules | `(tactic| walk_at "sv") => `(tactic| exact sv_cell_at (by walk_at "sd") (by walk_at "sd"))

section
variable {P : Program} {w : World} {K : PySem.W.Frag} {mg : Str → Option Value} {base : Heap} {A : Ads}
def sp_l_many (K : PySem.W.Frag) (A : Ads) : Sp := fun vs H Q E => ∃ c : Int, vs = [.int c] ∧ RetV (.int (manyOf c)) H Q
theorem sv_many {K : PySem.W.Frag} {A : Ads} {G : Hp} {c : Int} : SpV (sp_l_many K A) [.int c] G (.int (manyOf c)) := fun _ e _ q _ => ⟨c, rfl, q⟩
theorem ok_l_many {f : Addr} {fd : FuncData} (F : Fun K "_law_many" "_law_many" s_l_many f fd) (T : Txt K w mg A)  : FnOk P w K mg base (L2.CX P w) 1 f fd ["_law_cell"] (sp_l_many K A) := by
  refine F.okX sc_l_many (fun vs H Q E h => ?_) (fun cdv A_ outer s H vs Q E hr h => ?_)
  · obtain ⟨c, rfl, _⟩ := h; rfl
  · obtain ⟨c, rfl, q⟩ := h
    refine ⟨_, (pss_cons (ps_if (pt_cmpR op_eq (pe_op op_mod (pe_op op_fdiv (pv 0) pe_int) pe_int) pe_int (nomark _)) (pss_cons (ps_ret (pe_op op_add pe_int (pe_op op_mod (pe_op op_fdiv (pv 0) pe_int) pe_int))) pss_nil) pss_nil) (pss_cons (ps_if (pt_cmpR op_eq (pe_op op_mod (pe_op op_fdiv (pv 0) pe_int) pe_int) pe_int (nomark _)) (pss_cons (ps_ret (pe_op op_add pe_int (pe_op op_mod (pe_op op_fdiv (pv 0) pe_int) pe_int))) pss_nil) pss_nil) (pss_cons (ps_ret (pe_op op_mod (pv 0) pe_int)) pss_nil))), ?_⟩
    try dsimp only [cxOf, Cx.blk]
    refine Go.start (σ := [some (.int c)]) ?_
    refine go_when (by walk_at "et") (fun h => ?_) (fun h => ?_)
    · refine go_ret (by walk_at "ev") fun H1 e1 => ?_
      have := q H1 e1
      unfold manyOf at this
      rw [if_pos (of_decide_eq_true h)] at this
      exact this
    have h1 := of_decide_eq_false h
    refine go_when (by walk_at "et") (fun h => ?_) (fun h => ?_)
    · refine go_ret (by walk_at "ev") fun H1 e1 => ?_
      have := q H1 e1
      unfold manyOf at this
      rw [if_neg h1, if_pos (of_decide_eq_true h)] at this
      exact this
    · refine go_ret (by walk_at "ev") fun H1 e1 => ?_
      have := q H1 e1
      unfold manyOf at this
      rw [if_neg h1, if_neg (of_decide_eq_false h)] at this
      exact this

end
local macro_rules | `(tactic| walk_at "sv") => `(tactic| exact sv_many)

section
variable {P : Program} {w : World} {K : PySem.W.Frag} {mg : Str → Option Value} {base : Heap} {A : Ads}
def sp_l_mixed (K : PySem.W.Frag) (A : Ads) : Sp := fun vs H Q E => ∃ c k m : Int, vs = [.int c, .int k, .int m] ∧ 0 < m ∧ RetV (.int (mixed c k m)) H Q
theorem sv_mixed {K : PySem.W.Frag} {A : Ads} {G : Hp} {c k m : Int} (h : 0 < m) : SpV (sp_l_mixed K A) [.int c, .int k, .int m] G (.int (mixed c k m)) := fun _ e _ q _ => ⟨c, k, m, rfl, h, q⟩
theorem ok_l_mixed {f : Addr} {fd : FuncData} (F : Fun K "_law_mixed" "_law_mixed" s_l_mixed f fd) (T : Txt K w mg A)  : FnOk P w K mg base (L2.CX P w) 1 f fd ["_law_cell", "_law_k", "_law_many_here"] (sp_l_mixed K A) := by
  refine F.okX sc_l_mixed (fun vs H Q E h => ?_) (fun cdv A_ outer s H vs Q E hr h => ?_)
  · obtain ⟨c, k, m, rfl, _⟩ := h; rfl
  · obtain ⟨c, k, m, rfl, hm, q⟩ := h
    refine ⟨_, (pss_cons (ps_set (i := 3) sc_l_mixed.nd rfl (.inl rfl) (pe_lst (pa_cons pe_int (pa_cons pe_int (pa_cons pe_int (pa_cons pe_int (pa_cons pe_int (pa_cons pe_int (pa_cons pe_int (pa_cons pe_int (pa_cons pe_int (pa_cons pe_int (pa_cons pe_int pa_nil))))))))))))) (pss_cons (ps_ret (pe_op op_mod (pe_op op_mod (pe_op op_mul (pe_op op_add (pv 0) (pe_op op_mul pe_int (pv 1))) pe_int) (pe_ix (ixL K) (pv 3) (pe_op op_mod (pv 1) pe_int) (fun _ _ => rfl))) (pv 2))) pss_nil)), ?_⟩
    try dsimp only [cxOf, Cx.blk]
    refine Go.start (σ := [some (.int c), some (.int k), some (.int m), none]) ?_
    refine go_asgL (el_lst (by walk_at "ea") (by show 11 ≤ 100000; decide)) fun p hp => ?_
    have k0 : 0 ≤ k % 11 := by omega
    have k1 : k % 11 < 11 := by omega
    have hL : SqL K (upd H p (.lst (some11.map V.int))) p (some11.map V.int) := sq_of upd_same
    have ha : atI (some11.map V.int) (k % 11) = some (.int (some11.getD (k % 11).toNat 0)) := at_map V.int some11 0 k0 k1
    have hp11 := some11_pos k0 k1
    refine Go.weak (ex_of_eq (show upd H p (.lst (some11.map V.int)) = _ from rfl)) ?_
    refine go_ret (by walk_at "ev") fun H1 e1 => ?_
    exact q H1 ((Ex.new hp).trans e1)

end
local macro_rules | `(tactic| walk_at "sv") => `(tactic| exact sv_mixed (by walk_at "sd"))

section
variable {P : Program} {w : World} {K : PySem.W.Frag} {mg : Str → Option Value} {base : Heap} {A : Ads}
def sp_l_gate_by (K : PySem.W.Frag) (A : Ads) : Sp := fun vs H Q E => ∃ c b m : Int, vs = [.int c, .int b, .int m] ∧ 0 ≤ b ∧ 0 < m ∧ ∀ v H', Ex H H' → GateAt K H' v (gateBy c b m) → Q v H'
theorem sg_gate_by {K : PySem.W.Frag} {A : Ads} {G : Hp} {c b m : Int} (h : 0 ≤ b) (h2 : 0 < m) : SpG (sp_l_gate_by K A) [.int c, .int b, .int m] G fun v G' => GateAt K G' v (gateBy c b m) := fun H e Q _ q =>
  ⟨c, b, m, rfl, h, h2, fun v H' e' g => q v H' H' (e.trans e') (Ex.refl _) e' g⟩
theorem ok_l_gate_by {f : Addr} {fd : FuncData} (F : Fun K "_law_gate_by" "_law_gate_by" s_l_gate_by f fd) (T : Txt K w mg A) (c_l_mixed : CalX P w K mg base 1 "_law_mixed" (sp_l_mixed K A)) : FnOk P w K mg base (L2.CX P w) 2 f fd ["_law_cell", "_law_below", "_law_most"] (sp_l_gate_by K A) := by
  refine F.okX sc_l_gate_by (fun vs H Q E h => ?_) (fun cdv A_ outer s H vs Q E hr h => ?_)
  · obtain ⟨c, b, m, rfl, _⟩ := h; rfl
  · obtain ⟨c, b, m, rfl, hb, hm, q⟩ := h
    refine ⟨_, (pss_cons (ps_set (i := 3) sc_l_gate_by.nd rfl (.inl rfl) (pe_ix (ixL K) (pe_lst (pa_cons pe_int (pa_cons pe_int (pa_cons pe_int (pa_cons pe_int (pa_cons pe_int (pa_cons pe_int (pa_cons pe_int (pa_cons pe_int (pa_cons pe_int (pa_cons pe_int (pa_cons pe_int (pa_cons pe_int pa_nil))))))))))))) (pe_op op_mod (pv 0) pe_int) (fun _ _ => rfl))) (pss_cut (ps_if (pt_cmpR op_eq (pv 1) pe_int (nomark _)) (pss_cons (ps_set (i := 3) sc_l_gate_by.nd rfl (.inl rfl) (pe_op op_mod (pv 0) pe_int)) pss_nil) pss_nil) (pss_cons (ps_set (i := 4) sc_l_gate_by.nd rfl (.inl rfl) (pe_ix (ixL K) (pe_lst (pa_cons pe_int (pa_cons pe_int (pa_cons pe_int (pa_cons pe_int (pa_cons pe_int (pa_cons pe_int (pa_cons pe_int (pa_cons pe_int (pa_cons pe_int pa_nil)))))))))) (pv 3) (fun _ _ => rfl))) (pss_cut (ps_if (pt_cmpR op_eq (pv 4) pe_int (nomark _)) (pss_cons (ps_set (i := 4) sc_l_gate_by.nd rfl (.inl rfl) (pe_ix (ixL K) (pe_lst (pa_cons pe_int (pa_cons pe_int (pa_cons pe_int (pa_cons pe_int (pa_cons pe_int (pa_cons pe_int (pa_cons pe_int (pa_cons pe_int (pa_cons pe_int pa_nil)))))))))) (pe_cx c_l_mixed hr (by decide) rfl (takes_of rfl rfl rfl rfl) (pa_cons (pv 0) (pa_cons pe_int (pa_cons pe_int pa_nil)))) (fun _ _ => rfl))) pss_nil) pss_nil) (pss_cons (ps_setLc (i := 5) (own := [("_law_k", 7)]) (g := gName 7) (tt := tYes) rfl sc_l_gate_by.nd rfl rfl (sw_true rfl rfl rfl (by decide +kernel)) (pi_range1 rfl T.n_range (pa_cons (pv 4) pa_nil)) (blkOk_by (own := [("_law_k", 7)]) (N := ["_law_cell", "_law_below", "_law_most", "_law_way", "_law_many_here", "_law_sources", "_law_kind", "_law_k"]) (sc := defScope s_l_gate_by) (by decide +kernel)) (fun _ _ _ _ _ => pg_name (i := 7) sc_l_gate_by.nd rfl (Or.inl rfl)) (fun _ _ _ _ _ => pts_nil) (fun _ _ _ _ _ => (pe_cx c_l_mixed hr (by decide) rfl takes0 (pa_cons (pe_op op_fdiv (pv 0) pe_int) (pa_cons (pv 7) (pa_cons (pv 1) pa_nil)))))) (pss_cut (ps_if (PW.pt (pw_and (pt_cmpR op_gt (pv 4) pe_int (nomark _)) (pw_and1 (pt_cmpR op_eq (pe_op op_mod (pe_op op_fdiv (pv 0) pe_int) pe_int) pe_int (nomark _))))) (pss_cons (ps_asg (pe_op op_sub (pv 1) pe_int) (pg_sub (pv 5) pe_int set_list)) pss_nil) pss_nil) (pss_cons (ps_set (i := 6) sc_l_gate_by.nd rfl (.inl rfl) (pe_ix (ixL K) (pe_lst (pa_cons pe_str (pa_cons pe_str (pa_cons pe_str (pa_cons pe_str (pa_cons pe_str (pa_cons pe_str (pa_cons pe_str (pa_cons pe_str (pa_cons pe_str pa_nil)))))))))) (pv 3) (fun _ _ => rfl))) (pss_cons (ps_ret (pe_tup (pa_cons (pv 6) (pa_cons (pe_callTy (c_tup K) (by rfl) T.n_tuple (by decide +kernel) (pa_cons (pv 5) pa_nil)) (pa_cons (pe_op op_add pe_int (pe_cx c_l_mixed hr (by decide) rfl (takes_of rfl rfl rfl rfl) (pa_cons (pv 0) (pa_cons pe_int (pa_cons (pv 2) pa_nil))))) pa_nil))))) pss_nil)))))))), ?_⟩
    try dsimp only [cxOf, Cx.blk]
    refine Go.start (σ := [some (.int c), some (.int b), some (.int m), none, none, none, none, none]) ?_
    have c0 : 0 ≤ c % 12 := by omega
    have c1 : c % 12 < 12 := by omega
    refine go_asg (ev_ixLit (el_lst (by walk_at "ea") (by show 12 ≤ 100000; decide)) (by walk_at "ev") (by exact at_map V.int ways12 0 c0 c1)) ?_
    refine go_cut (fun σ' G' => σ' = [some (.int c), some (.int b), some (.int m), some (.int (wayOf c b)), none, none, none, none] ∧ H = G') (go_ifs (by walk_at "et") (fun h => ?_) (fun h => ?_)) ?_
    · exact go_asg (by walk_at "ev") (go_kn ⟨by unfold wayOf; rw [if_pos (of_decide_eq_true h)]; rfl, rfl⟩)
    · exact go_kn ⟨by unfold wayOf; rw [if_neg (of_decide_eq_false h)]; rfl, rfl⟩
    rintro σ' G' ⟨rfl, rfl⟩
    obtain ⟨w0, w9, w2⟩ := wayOf_in c (below := b)
    obtain ⟨n0, n9, n2, _⟩ := cntOf_in c w0 w9
    have hl := lo9_in' w0 w9
    have hmx := mixed_in (c := c) (k := 9) (m := 9) (by decide)
    refine go_asg (ev_ixLit (el_lst (by walk_at "ea") (by show 9 ≤ 100000; decide)) (by walk_at "ev") (by exact at_map V.int lo9 0 w0 w9)) ?_
    refine go_cut (fun σ' G' => σ' = [some (.int c), some (.int b), some (.int m), some (.int (wayOf c b)), some (.int (cntOf c (wayOf c b))), none, none, none] ∧ H = G') (go_ifs (by walk_at "et") (fun h => ?_) (fun h => ?_)) ?_
    · refine go_asg (ev_ixLit (el_lst (by walk_at "ea") (by show 9 ≤ 100000; decide)) (by walk_at "ev") (by exact at_map V.int cnt9 0 hmx.1 hmx.2)) ?_
      exact go_kn ⟨by unfold cntOf; rw [if_pos (of_decide_eq_true h)]; rfl, rfl⟩
    · exact go_kn ⟨by unfold cntOf; rw [if_neg (of_decide_eq_false h)]; rfl, rfl⟩
    rintro σ' G' ⟨rfl, rfl⟩
    generalize hwy : wayOf c b = wy at *
    generalize hn : cntOf c wy = n at *
    have b1 : 0 < n → 0 < b := fun h => by
      by_cases z : b = 0
      · have := n2 (w2 z); omega
      · omega
    refine go_asgL (xs := ((List.range n.toNat).map fun k : Nat => mixed (c / 12) k b).map V.int) (by
      rw [List.map_map]
      exact el_lcR (σ := [some (.int c), some (.int b), some (.int m), some (.int wy), some (.int n), none, none, none]) (vs := [7]) (j := 7) (n := n) (fun k => .int (mixed (c / 12) k b)) (by walk_at "ea") ⟨n0, by omega⟩ (fun _ => rfl)
        (fun k k0 k1 => by have := b1 (by omega); walk_at "ev")) fun p hp => ?_
    refine go_cut (fun σ' G' => σ' = [some (.int c), some (.int b), some (.int m), some (.int wy), some (.int n), some (.ref p), none, none] ∧ upd H p (.lst ((srcsOf c b n).map V.int)) = G') (go_ifs (by walk_at "et") (fun h => ?_) (fun h => ?_)) ?_
    · have h2 : 0 < n ∧ c / 12 % 2 = 1 := by simpa only [Bool.and_eq_true, decide_eq_true_eq] using h
      refine go_setL (l := p) (j := 0) (v := .int (b - 1)) (by walk_at "ev") (by walk_at "ev") upd_same (ev_is ev_c rfl) (by rw [List.length_map, List.length_map, List.length_range]; omega) ?_
      exact go_kn ⟨rfl, by rw [upd_upd]; unfold srcsOf; simp only [if_pos h2]; rw [List.map_set]⟩
    · have h2 : ¬ (0 < n ∧ c / 12 % 2 = 1) := fun ⟨p, q⟩ => by simp [p, q] at h
      exact go_kn ⟨rfl, by unfold srcsOf; simp only [if_neg h2]⟩
    rintro σ' G' ⟨rfl, rfl⟩
    have hL : SqL K (upd H p (.lst ((srcsOf c b n).map V.int))) p ((srcsOf c b n).map V.int) := sq_of upd_same
    refine go_asg (ev_ixLit (el_lst (by walk_at "ea") (by show 9 ≤ 100000; decide)) (by walk_at "ev") (by exact at_map V.str kinds9 "" w0 w9)) ?_
    refine go_retP (ep_gate (K := K) (by walk_at "ev") (eu_tupL (by walk_at "ev") hL) (by walk_at "ev")) fun v G' H1 e1 e2 hg => ?_
    refine q v H1 (((Ex.new hp).trans e1).trans e2) (hg.mono e2 |> fun h => ?_)
    unfold gateBy
    rw [hwy, hn]
    exact h

end

section
variable {P : Program} {w : World} {K : PySem.W.Frag} {mg : Str → Option Value} {base : Heap} {A : Ads}
def sp_l_loose (K : PySem.W.Frag) (A : Ads) : Sp := fun vs H Q E => ∃ (a : Addr) (ns : List Int) (many most : Int), vs = [.ref a, .int many, .int most] ∧ SqL K H a (ns.map V.int) ∧ ns.length ≤ 63 ∧ 0 ≤ many ∧ 0 < most ∧
  ∀ v H', Ex H H' → PlanAt K H' v (looseP ns many most) → Q v H'
theorem sg_loose {K : PySem.W.Frag} {A : Ads} {G : Hp} {a : Addr} {ns : List Int} {many most : Int} (h : SqL K G a (ns.map V.int)) (hn : ns.length ≤ 63) (h0 : 0 ≤ many) (h1 : 0 < most) :
    SpG (sp_l_loose K A) [.ref a, .int many, .int most] G fun v G' => PlanAt K G' v (looseP ns many most) := fun H e Q _ q =>
  ⟨a, ns, many, most, rfl, ex_l e h, hn, h0, h1, fun v H' e' hp => q v H' H' (e.trans e') (Ex.refl _) e' hp⟩
theorem ok_l_loose {f : Addr} {fd : FuncData} (F : Fun K "_law_loose" "_law_loose" s_l_loose f fd) (T : Txt K w mg A) (c_l_cell_at : CalX P w K mg base 1 "_law_cell_at" (sp_l_cell_at K A)) (c_l_gate_by : CalX P w K mg base 2 "_law_gate_by" (sp_l_gate_by K A)) : FnOk P w K mg base (L2.CX P w) 3 f fd ["_law_script", "_law_many_here", "_law_most"] (sp_l_loose K A) := by
  refine F.okX sc_l_loose (fun vs H Q E h => ?_) (fun cdv A_ outer s H vs Q E hr h => ?_)
  · obtain ⟨a, ns, many, most, rfl, _⟩ := h; rfl
  · obtain ⟨a, ns, many, most, rfl, hS, hlen, hm0, hmo, q⟩ := h
    refine ⟨_, (pss_cons (ps_set (i := 3) sc_l_loose.nd rfl (.inr rfl) (pe_slice (slL K) (pv 0) (po_some pe_int) (po_some pe_int))) (pss_cons (ps_set (i := 4) sc_l_loose.nd rfl (.inr rfl) (pe_cx c_l_cell_at hr (by decide) rfl (takes_of rfl rfl rfl rfl) (pa_cons (pv 0) (pa_cons pe_int pa_nil)))) (pss_cons (ps_if (pt_cmpR op_eq (pe_op op_mod (pv 4) pe_int) pe_int (nomark _)) (pss_cons (ps_set (i := 5) sc_l_loose.nd rfl (.inr rfl) (pe_op op_add pe_int (pe_op op_mod (pe_op op_fdiv (pv 4) pe_int) pe_int))) (pss_cons (ps_setLc (i := 6) (own := [("_law_k", 7)]) (g := gName 7) (tt := tYes) rfl sc_l_loose.nd rfl rfl (sw_true rfl rfl rfl (by decide +kernel)) (pi_range1 rfl T.n_range (pa_cons (pv 5) pa_nil)) (blkOk_by (own := [("_law_k", 7)]) (N := ["_law_script", "_law_many_here", "_law_most", "_law_cells", "_law_far", "_law_count", "_law_ringed_here", "_law_k", "_law_cell"]) (sc := defScope s_l_loose) (by decide +kernel)) (fun _ _ _ _ _ => pg_name (i := 7) sc_l_loose.nd rfl (Or.inl rfl)) (fun _ _ _ _ _ => pts_nil) (fun _ _ _ _ _ => (pe_tup (pa_cons pe_str (pa_cons (pe_tup (pa_cons (pe_op op_add (pv 1) (pe_op op_mod (pe_op op_add (pv 7) pe_int) (pv 5))) pa_nil)) (pa_cons pe_int pa_nil)))))) (pss_cons (ps_ret (pe_tup (pa_cons (pv 1) (pa_cons (pe_op op_cat (pv 6) (pe_lc (own := [("_law_cell", 8)]) (g := gName 8) (tt := tYes) rfl sc_l_loose.nd (pi_L K (pe_slice (slL K) (pv 0) (po_some pe_int) (po_some pe_int))) (blkOk_by (own := [("_law_cell", 8)]) (N := ["_law_script", "_law_many_here", "_law_most", "_law_cells", "_law_far", "_law_count", "_law_ringed_here", "_law_k", "_law_cell"]) (sc := defScope s_l_loose) (by decide +kernel)) (fun _ _ _ _ _ => pg_name (i := 8) sc_l_loose.nd rfl (Or.inl rfl)) (fun _ _ _ _ _ => pts_nil) (fun _ _ _ _ _ => (pe_cx c_l_gate_by hr (by decide) rfl takes0 (pa_cons (pv 8) (pa_cons (pe_op op_add (pv 1) (pv 5)) (pa_cons (pv 2) pa_nil))))))) pa_nil)))) pss_nil))) pss_nil) (pss_cut (ps_if (pt_cmpR op_eq (pe_op op_mod (pv 4) pe_int) pe_int (nomark _)) (pss_cons (ps_set (i := 3) sc_l_loose.nd rfl (.inr rfl) (pe_op op_cat (pe_lc (own := [("_law_k", 7)]) (g := gName 7) (tt := tYes) rfl sc_l_loose.nd (pi_range1 rfl T.n_range (pa_cons (pe_op op_add pe_int (pe_op op_mod (pe_op op_fdiv (pv 4) pe_int) pe_int)) pa_nil)) (blkOk_by (own := [("_law_k", 7)]) (N := ["_law_script", "_law_many_here", "_law_most", "_law_cells", "_law_far", "_law_count", "_law_ringed_here", "_law_k", "_law_cell"]) (sc := defScope s_l_loose) (by decide +kernel)) (fun _ _ _ _ _ => pg_name (i := 7) sc_l_loose.nd rfl (Or.inl rfl)) (fun _ _ _ _ _ => pts_nil) (fun _ _ _ _ _ => (pe_op op_add (pe_op op_fdiv (pv 4) pe_int) (pe_op op_mul pe_int (pv 7))))) (pe_slice (slL K) (pv 0) (po_some pe_int) (po_some pe_int)))) pss_nil) pss_nil) (pss_cons (ps_ret (pe_tup (pa_cons (pv 1) (pa_cons (pe_lc (own := [("_law_cell", 8)]) (g := gName 8) (tt := tYes) rfl sc_l_loose.nd (pi_L K (pv 3)) (blkOk_by (own := [("_law_cell", 8)]) (N := ["_law_script", "_law_many_here", "_law_most", "_law_cells", "_law_far", "_law_count", "_law_ringed_here", "_law_k", "_law_cell"]) (sc := defScope s_l_loose) (by decide +kernel)) (fun _ _ _ _ _ => pg_name (i := 8) sc_l_loose.nd rfl (Or.inl rfl)) (fun _ _ _ _ _ => pts_nil) (fun _ _ _ _ _ => (pe_cx c_l_gate_by hr (by decide) rfl takes0 (pa_cons (pv 8) (pa_cons (pe_op op_add (pv 1) (pe_callB (c_len K) (by rfl) T.n_len PySem.boot_len (pa_cons (pv 3) pa_nil))) (pa_cons (pv 2) pa_nil)))))) pa_nil)))) pss_nil))))), ?_⟩
    try dsimp only [cxOf, Cx.blk]
    refine Go.start (σ := [some (.ref a), some (.int many), some (.int most), none, none, none, none, none, none]) ?_
    have sl : ∀ (σ : L2.St) (G : Hp) (hi : Nat), σ[0]? = some (some (.ref a)) → Ex H G → 3 ≤ hi → EvL (tSl (rSlL K) (tVar 0) (tPart (tC (.int 3))) (tPart (tC (.int (hi : Int))))) σ G (((ns.drop 3).take (hi - 3)).map V.int) := fun σ G hi h0 e h3 => by
      have q := el_sl (K := K) (σ := σ) (H := G) (te := tVar 0) (tl := tPart (tC (.int 3))) (th := tPart (tC (.int (hi : Int)))) (ev_var h0) (eo_some ev_c) (eo_some ev_c) (ex_l e hS)
      rw [show cutV (ns.map V.int) (some 3) (some (hi : Int)) = ((ns.drop 3).take (hi - 3)).map V.int by rw [List.map_take, List.map_drop]; exact cut_nat (a := 3) (b := hi) h3] at q
      exact q
    refine go_asgL (sl _ H 203 rfl (Ex.refl _) (by decide)) fun pc hpc => ?_
    have e1 : Ex H (upd H pc (.lst (((ns.drop 3).take 200).map V.int))) := Ex.new hpc
    have hS1 := ex_l e1 hS
    have hc1 : SqL K (upd H pc (.lst (((ns.drop 3).take 200).map V.int))) pc (((ns.drop 3).take 200).map V.int) := sq_of upd_same
    show Go _ _ _ (upd H pc (.lst (((ns.drop 3).take 200).map V.int)))
    generalize upd H pc (.lst (((ns.drop 3).take 200).map V.int)) = G1 at *
    refine go_asg (v := .int (cell ns 1)) (by walk_at "ev") ?_
    refine go_when (b := decide (cell ns 1 % 8 = 2)) (by walk_at "et") (fun h => ?_) (fun h => ?_)
    · have h2 : cell ns 1 % 8 = 2 := of_decide_eq_true h
      refine go_asg (v := .int (60 + cell ns 1 / 8 % 131)) (by walk_at "ev") ?_
      generalize hn : 60 + cell ns 1 / 8 % 131 = n
      have n0 : 60 ≤ n := by omega
      have n1 : n ≤ 190 := by omega
      refine go_asgP (ep_lcPR (n := n) (R := GateAt K) (fun k => ⟨"not", [many + (k + 1) % n], 1⟩) (lasts_gate K) (by walk_at "ea") (by omega) (fun _ => rfl) fun k k0 k1 => ?_) fun v G2 e2 hv => ?_
      · refine ep_gate (ss := [many + (k + 1) % n]) ev_c ?_ ev_c
        exact eu_tup (ea_cons (ev_op (ev_var rfl) (ev_op (ev_op (ev_var rfl) ev_c rv_I0) (ev_var rfl) (rv_I (by show 0 < n; omega))) rv_I0) ea_nil) (by show 1 ≤ 100000; decide)
      · obtain ⟨pr, wr, rfl, hpr, hG2, hR2⟩ := hv
        have eH2 := e1.trans e2
        refine go_retP (ep_planP (p := looseP ns many most) (ev_var rfl) ?_) fun v G' H1 g1 g2 hp => q v H1 ((eH2.trans g1).trans g2) (hp.mono g2)
        have el := sl ([some (.ref a), some (.int many), some (.int most), some (.ref pc), some (.int (cell ns 1)), some (.int n), some (.ref pr), none, none]) G2 13 rfl eH2 (by decide)
        have hgl : (looseP ns many most).gates = (((List.range n.toNat).map fun i : Nat => (⟨"not", [many + ((i : Int) + 1) % n], 1⟩ : Gate)) ++ ((ns.drop 3).take 10).map fun c => gateBy c (many + n) most) := by
          show looseGates ns many most = _
          unfold looseGates ringGates
          rw [if_pos h2, hn]
        rw [hgl]
        refine ep_catR (lasts_gate K) (ev_var rfl) hG2 hR2 (ep_lcPN ((ns.drop 3).take 10) V.int (fun c => gateBy c (many + n) most) (lasts_gate K) el (by rw [List.length_take]; omega) (fun _ => rfl) fun c hc => ?_) (by simp only [List.length_map, List.length_range, List.length_take]; omega)
        exact ep_call (vs := [.int c, .int (many + n), .int most]) (ea_cons (ev_var rfl) (ea_cons (ev_op (ev_var rfl) (ev_var rfl) rv_I0) (ea_cons (ev_var rfl) ea_nil))) (sg_gate_by (by omega) hmo)
    have h2 : ¬ cell ns 1 % 8 = 2 := of_decide_eq_false h
    have hgl : (looseP ns many most).gates = (looseCells ns).map fun c => gateBy c (many + (looseCells ns).length) most := by
      show looseGates ns many most = _
      unfold looseGates
      rw [if_neg h2]
    have hcl := looseCells_len hlen
    refine go_cut (fun σ' G' => ∃ pc, σ' = [some (.ref a), some (.int many), some (.int most), some (.ref pc), some (.int (cell ns 1)), none, none, none, none] ∧ Ex H G' ∧ SqL K G' pc ((looseCells ns).map V.int)) (go_ifs (b := decide (cell ns 1 % 8 = 5)) (by walk_at "et") (fun h => ?_) (fun h => ?_)) ?_
    · have h5 : cell ns 1 % 8 = 5 := of_decide_eq_true h
      have el := sl ([some (.ref a), some (.int many), some (.int most), some (.ref pc), some (.int (cell ns 1)), none, none, none, none]) G1 13 rfl e1 (by decide)
      have ec : ((List.range (60 + cell ns 1 / 8 % 131).toNat).map fun i : Nat => V.int (cell ns 1 / 8 + 5 * (i : Int))) ++ ((ns.drop 3).take 10).map V.int = (looseCells ns).map V.int := by
        unfold looseCells
        rw [if_pos h5, List.map_append, List.map_map]
        rfl
      refine go_asgL (el_catN (el_lcR (n := 60 + cell ns 1 / 8 % 131) (fun k => .int (cell ns 1 / 8 + 5 * k)) (ea_cons (by walk_at "ev") ea_nil) (by omega) (fun _ => rfl) fun k k0 k1 => by walk_at "ev") el (by simp only [List.length_map, List.length_range, List.length_take]; omega)) fun p2 hp2 => ?_
      rw [ec]
      exact go_kn ⟨p2, rfl, e1.trans (Ex.new hp2), sq_of upd_same⟩
    · have h5 : ¬ cell ns 1 % 8 = 5 := of_decide_eq_false h
      refine go_kn ⟨pc, rfl, e1, ?_⟩
      unfold looseCells
      rw [if_neg h5]
      exact hc1
    · rintro σ' G2 ⟨pc2, rfl, e2, hc2⟩
      refine go_retP (ep_planP (p := looseP ns many most) (ev_var rfl) ?_) fun v G' H1 g1 g2 hp => q v H1 ((e2.trans g1).trans g2) (hp.mono g2)
      rw [hgl]
      refine ep_lcP (looseCells ns) V.int (fun c => gateBy c (many + (looseCells ns).length) most) (lasts_gate K) (ev_var rfl) hc2 (by omega) (fun _ => rfl) fun c hc => ?_
      have hl : Ev (tCB (rLenS K) (tCons (tVar 3) tNil)) ([some (.ref a), some (.int many), some (.int most), some (.ref pc2), some (.int (cell ns 1)), none, none, none, some (.int c)]) G2 (.int ((looseCells ns).length : Int)) := by
        have q := ev_len (K := K) (ta := tVar 3) (σ := [some (.ref a), some (.int many), some (.int most), some (.ref pc2), some (.int (cell ns 1)), none, none, none, some (.int c)]) (ev_var rfl) hc2
        rw [List.length_map] at q
        exact q
      exact ep_call (vs := [.int c, .int (many + (looseCells ns).length), .int most]) (ea_cons (ev_var rfl) (ea_cons (ev_op (ev_var rfl) hl rv_I0) (ea_cons (ev_var rfl) ea_nil))) (sg_gate_by (by omega) hmo)

end

section
variable {P : Program} {w : World} {K : PySem.W.Frag} {mg : Str → Option Value} {base : Heap} {A : Ads}
def sp_l_gates_by (K : PySem.W.Frag) (A : Ads) : Sp := fun vs H Q E => ∃ (a : Addr) (ns : List Int) (many most : Int), vs = [.ref a, .int many, .int most] ∧ SqL K H a (ns.map V.int) ∧ ns.length ≤ 63 ∧ 0 ≤ many ∧ 0 < most ∧
  ∀ g ws H', H g = none → Ex H H' → H' g = some (.lst ws) → Rows (GateAt K H') ws (gatesBy ns many most) → Q (.ref g) H'
theorem sg_gates_by {K : PySem.W.Frag} {A : Ads} {G : Hp} {a : Addr} {ns : List Int} {many most : Int} (h : SqL K G a (ns.map V.int)) (hn : ns.length ≤ 63) (h0 : 0 ≤ many) (h1 : 0 < most) :
    SpG (sp_l_gates_by K A) [.ref a, .int many, .int most] G fun v G' => ∃ g ws, v = .ref g ∧ G g = none ∧ G' g = some (.lst ws) ∧ Rows (GateAt K G') ws (gatesBy ns many most) := fun H e Q _ q =>
  ⟨a, ns, many, most, rfl, ex_l e h, hn, h0, h1, fun g ws H' hg e' hl hr => q _ H' H' (e.trans e') (Ex.refl _) e' ⟨g, ws, rfl, e.none hg, hl, hr⟩⟩
theorem ok_l_gates_by {f : Addr} {fd : FuncData} (F : Fun K "_law_gates_by" "_law_gates_by" s_l_gates_by f fd) (T : Txt K w mg A) (c_l_cell_at : CalX P w K mg base 1 "_law_cell_at" (sp_l_cell_at K A)) (c_l_gate_by : CalX P w K mg base 2 "_law_gate_by" (sp_l_gate_by K A)) : FnOk P w K mg base (L2.CX P w) 3 f fd ["_law_script", "_law_many_here", "_law_most"] (sp_l_gates_by K A) := by
  refine F.okX sc_l_gates_by (fun vs H Q E h => ?_) (fun cdv A_ outer s H vs Q E hr h => ?_)
  · obtain ⟨a, ns, many, most, rfl, _⟩ := h; rfl
  · obtain ⟨a, ns, many, most, rfl, hS, hlen, hm0, hmo, q⟩ := h
    refine ⟨_, (pss_cons (ps_set (i := 3) sc_l_gates_by.nd rfl (.inl rfl) (pe_lst pa_nil)) (pss_cons (ps_set (i := 4) sc_l_gates_by.nd rfl (.inl rfl) (pe_slice (slL K) (pv 0) (po_some pe_int) (po_some pe_int))) (pss_cons (ps_set (i := 5) sc_l_gates_by.nd rfl (.inl rfl) (pe_cx c_l_cell_at hr (by decide) rfl (takes_of rfl rfl rfl rfl) (pa_cons (pv 0) (pa_cons pe_int pa_nil)))) (pss_cut (ps_if (PW.pt (pw_or (pt_cmpR op_eq (pe_op op_mod (pv 5) pe_int) pe_int (nomark _)) (pw_or1 (pt_cmpR op_eq (pe_op op_mod (pv 5) pe_int) pe_int (nomark _))))) (pss_cons (ps_set (i := 4) sc_l_gates_by.nd rfl (.inl rfl) (pe_slice (slL K) (pv 0) (po_some pe_int) (po_some pe_int))) (pss_cons (ps_for (passes_of rfl) rfl (pi_range1 rfl T.n_range (pa_cons (pe_op op_add pe_int (pe_op op_mod (pe_op op_fdiv (pv 5) pe_int) pe_int)) pa_nil)) (pg_name (i := 6) sc_l_gates_by.nd rfl (.inl rfl)) (pss_cut (ps_if (PW.pt (pw_or (pt_cmpR op_eq (pe_op op_mod (pv 5) pe_int) pe_int (nomark _)) (pw_or1 (pt_cmpR op_eq (pe_op op_add (pv 1) (pv 6)) pe_int (nomark _))))) (pss_cons (ps_expr (pe_bm PySem.F.plainAttrs_list PySem.F.slot_list_append PySem.F.type_list_append mt_append (pv 3) (pa_cons (pe_cx c_l_gate_by hr (by decide) rfl (takes_of rfl rfl rfl rfl) (pa_cons (pe_op op_add (pe_op op_fdiv (pv 5) pe_int) (pe_op op_mul pe_int (pv 6))) (pa_cons (pe_op op_add (pv 1) (pv 6)) (pa_cons (pv 2) pa_nil)))) pa_nil))) pss_nil) (pss_cons (ps_expr (pe_bm PySem.F.plainAttrs_list PySem.F.slot_list_append PySem.F.type_list_append mt_append (pv 3) (pa_cons (pe_tup (pa_cons pe_str (pa_cons (pe_tup (pa_cons (pe_op op_sub (pe_op op_add (pv 1) (pv 6)) pe_int) pa_nil)) (pa_cons pe_int pa_nil)))) pa_nil))) pss_nil)) pss_nil)) pss_nil)) pss_nil) (pss_cons (ps_for (passes_of rfl) rfl (pi_L K (pv 4)) (pg_name (i := 7) sc_l_gates_by.nd rfl (.inl rfl)) (pss_cons (ps_expr (pe_bm PySem.F.plainAttrs_list PySem.F.slot_list_append PySem.F.type_list_append mt_append (pv 3) (pa_cons (pe_cx c_l_gate_by hr (by decide) rfl (takes_of rfl rfl rfl rfl) (pa_cons (pv 7) (pa_cons (pe_op op_add (pv 1) (pe_callB (c_len K) (by rfl) T.n_len PySem.boot_len (pa_cons (pv 3) pa_nil))) (pa_cons (pv 2) pa_nil)))) pa_nil))) pss_nil)) (pss_cons (ps_ret (pv 3)) pss_nil)))))), ?_⟩
    try dsimp only [cxOf, Cx.blk]
    refine Go.start (σ := [some (.ref a), some (.int many), some (.int most), none, none, none, none, none]) ?_
    refine go_asgL (el_lst (by walk_at "ea") (Nat.zero_le _)) fun pg hpg => ?_
    have e1 : Ex H (upd H pg (.lst [])) := Ex.new hpg
    have hS1 := ex_l e1 hS
    refine go_asgL (xs := ((ns.drop 3).take 200).map V.int) (by
      have q := el_sl (K := K) (σ := [some (.ref a), some (.int many), some (.int most), some (.ref pg), none, none, none, none]) (H := upd H pg (.lst [])) (te := tVar 0) (tl := tPart (tC (.int 3))) (th := tPart (tC (.int 203))) (ev_var rfl) (eo_some ev_c) (eo_some ev_c) hS1
      rw [show cutV (ns.map V.int) (some 3) (some 203) = ((ns.drop 3).take 200).map V.int by rw [List.map_take, List.map_drop]; exact cut_nat (a := 3) (b := 203) (by omega)] at q
      exact q) fun pc hpc => ?_
    obtain ⟨npc, hpc0⟩ := none_upd.mp hpc
    have e2 : Ex H (upd (upd H pg (.lst [])) pc (.lst (((ns.drop 3).take 200).map V.int))) := Ex.mut e1 hpc0
    have hS2 := ex_l e2 hS
    refine go_asg (by walk_at "ev") ?_
    -- the far gates
    refine go_cut (fun σ' G' => ∃ pc ws y, σ' = [some (.ref a), some (.int many), some (.int most), some (.ref pg), some (.ref pc), some (.int (cell ns 1)), y, none] ∧ Ex (upd H pc (.lst ((startCells ns).map V.int))) G' ∧ H pc = none ∧ pc ≠ pg ∧ G' pg = some (.lst ws) ∧ Rows (GateAt K G') ws (startGates ns many most)) (go_ifs (by walk_at "et") (fun h => ?_) (fun h => ?_)) ?_
    · have hf : isFar ns := by unfold isFar; simpa only [Bool.or_eq_true, decide_eq_true_eq] using h
      generalize hG2 : upd (upd H pg (.lst [])) pc (.lst (((ns.drop 3).take 200).map V.int)) = G2 at *
      have hpg2 : G2 pg = some (.lst []) := by rw [← hG2, upd_ne (Ne.symm npc), upd_same]
      refine go_asgL (xs := ((ns.drop 3).take 10).map V.int) (by
        have q := el_sl (K := K) (σ := [some (.ref a), some (.int many), some (.int most), some (.ref pg), some (.ref pc), some (.int (cell ns 1)), none, none]) (H := G2) (te := tVar 0) (tl := tPart (tC (.int 3))) (th := tPart (tC (.int 13))) (ev_var rfl) (eo_some ev_c) (eo_some ev_c) hS2
        rw [show cutV (ns.map V.int) (some 3) (some 13) = ((ns.drop 3).take 10).map V.int by rw [List.map_take, List.map_drop]; exact cut_nat (a := 3) (b := 13) (by omega)] at q
        exact q) fun p3 hp3 => ?_
      have np3 : p3 ≠ pg := Ne.symm (ne_of_none hpg2 hp3)
      have hp30 : H p3 = none := e2.none hp3
      have sc : startCells ns = (ns.drop 3).take 10 := by unfold startCells; rw [if_pos hf]
      have sg : startGates ns many most = farGates (cell ns 1) many most (60 + cell ns 1 / 8 % 131).toNat := by unfold startGates; rw [if_pos hf]
      have eB : Ex (upd H p3 (.lst ((startCells ns).map V.int))) (upd G2 p3 (.lst (((ns.drop 3).take 10).map V.int))) := by rw [sc]; exact Ex.put e2
      refine go_forR1 (upd H p3 (.lst ((startCells ns).map V.int))) (n := 60 + cell ns 1 / 8 % 131) (by walk_at "ea") (by omega) eB (fun k σ' G' => ∃ ws y, σ' = [some (.ref a), some (.int many), some (.int most), some (.ref pg), some (.ref p3), some (.int (cell ns 1)), y, none] ∧ G' pg = some (.lst ws) ∧ Rows (GateAt K G') ws (farGates (cell ns 1) many most k.toNat))
        ⟨[], none, rfl, by rw [upd_ne (Ne.symm np3)]; exact hpg2, rows_nil⟩ ?_ ?_
      · rintro k σ' G' k0 k1 eG ⟨ws, y, rfl, hws, hR⟩
        have lw : ws.length < 100000 := by rw [hR.1, farGates_len]; omega
        have hk : (k + 1).toNat = k.toNat + 1 := by omega
        have kk : ((k.toNat : Nat) : Int) = k := by omega
        have npgB : (upd H p3 (.lst ((startCells ns).map V.int))) pg = none := by rw [upd_ne (Ne.symm np3)]; exact hpg
        refine go_cut (fun σ' G' => ∃ ws y, σ' = [some (.ref a), some (.int many), some (.int most), some (.ref pg), some (.ref p3), some (.int (cell ns 1)), y, none] ∧ Ex (upd H p3 (.lst ((startCells ns).map V.int))) G' ∧ G' pg = some (.lst ws) ∧ Rows (GateAt K G') ws (farGates (cell ns 1) many most (k + 1).toNat)) (go_ifs (by walk_at "et") (fun h => ?_) (fun h => ?_)) ?_
        · have h2 : cell ns 1 % 8 = 4 ∨ many + k = 0 := by simpa only [Bool.or_eq_true, decide_eq_true_eq] using h
          refine go_appP (l := pg) (xs := ws) (by walk_at "ev") hws (ep_call (by walk_at "ea") (sg_gate_by (c := cell ns 1 / 8 + 5 * k) (b := many + k) (m := most) (by omega) hmo)) lw fun v G1 e1 hv => ?_
          refine go_kn ⟨_, _, rfl, Ex.mut (eG.trans e1) npgB, upd_same, ?_⟩
          rw [hk, farGates, kk]
          refine rows_snoc (gates_put hR e1 (e1 _ _ hws)) ?_
          unfold farGate
          rw [if_pos h2]
          exact hv.put (e1 _ _ hws)
        · have h2 : ¬ (cell ns 1 % 8 = 4 ∨ many + k = 0) := by
            intro h3
            have : (decide (cell ns 1 % 8 = 4) || decide (many + k = 0)) = true := by simpa only [Bool.or_eq_true, decide_eq_true_eq] using h3
            rw [this] at h; cases h
          refine go_appP (l := pg) (xs := ws) (by walk_at "ev") hws (ep_gate (K := K) (z := "not") (ss := [many + k - 1]) (d := 1) ev_c (eu_tup (vs := [.int (many + k - 1)]) (ea_cons (ev_op (ev_op (ev_var rfl) (ev_var rfl) rv_I0) ev_c rv_I0) ea_nil) (by show 1 ≤ 100000; decide)) ev_c) lw fun v G1 e1 hv => ?_
          refine go_kn ⟨_, _, rfl, Ex.mut (eG.trans e1) npgB, upd_same, ?_⟩
          rw [hk, farGates, kk]
          refine rows_snoc (gates_put hR e1 (e1 _ _ hws)) ?_
          unfold farGate
          rw [if_neg h2]
          exact hv.put (e1 _ _ hws)
        · rintro σ1 G1 ⟨ws1, y1, rfl, e1, h1, h2⟩
          exact go_kb e1 ⟨ws1, _, rfl, h1, h2⟩
      · rintro σ' G' eG ⟨ws, y, rfl, hws, hR⟩
        exact go_kn ⟨p3, ws, _, rfl, eG, hp30, np3, hws, by rw [sg]; exact hR⟩
    · have hf : ¬ isFar ns := by
        intro h3
        unfold isFar at h3
        have : (decide (cell ns 1 % 8 = 1) || decide (cell ns 1 % 8 = 4)) = true := by simpa only [Bool.or_eq_true, decide_eq_true_eq] using h3
        rw [this] at h; cases h
      have sc : startCells ns = (ns.drop 3).take 200 := by unfold startCells; rw [if_neg hf]
      have sg : startGates ns many most = [] := by unfold startGates; rw [if_neg hf]
      exact go_kn ⟨pc, [], none, rfl, by rw [sc]; exact Ex.put e1, hpc0, npc, by rw [upd_ne (Ne.symm npc), upd_same], by rw [sg]; exact rows_nil⟩
    -- the cells
    rintro σ' G3 ⟨p4, ws0, y0, rfl, e3, hp40, np4, hws0, hR0⟩
    have npgB : (upd H p4 (.lst ((startCells ns).map V.int))) pg = none := by rw [upd_ne (Ne.symm np4)]; exact hpg
    obtain ⟨lc, lg⟩ := startCells_len (many := many) (most := most) hlen
    refine go_forL (upd H p4 (.lst ((startCells ns).map V.int))) (by walk_at "ev") e3 (sq_of upd_same) (fun i σ' G' => ∃ ws y, σ' = [some (.ref a), some (.int many), some (.int most), some (.ref pg), some (.ref p4), some (.int (cell ns 1)), y0, y] ∧ G' pg = some (.lst ws) ∧ Rows (GateAt K G') ws (addGates many most (startGates ns many most) ((startCells ns).take i)))
      ⟨ws0, none, rfl, hws0, by rw [List.take_zero]; exact hR0⟩ ?_ ?_
    · rintro i x σ' G' hx eG ⟨ws, y, rfl, hws, hR⟩
      rw [List.getElem?_map] at hx
      cases hc : (startCells ns)[i]? with
      | none => rw [hc] at hx; cases hx
      | some c =>
        rw [hc] at hx
        cases hx
        have hi : i < (startCells ns).length := (List.getElem?_eq_some_iff.mp hc).1
        have hws' : SqL K G' pg ws := sq_of hws
        have lw : ws.length < 100000 := by rw [hR.1, addGates_len, List.length_take]; omega
        refine go_appP (l := pg) (xs := ws) (by walk_at "ev") hws (ep_call (by walk_at "ea") (sg_gate_by (c := c) (b := many + ws.length) (m := most) (by omega) hmo)) lw fun v G1 e1 hv => ?_
        refine go_kb (Ex.mut (eG.trans e1) npgB) ⟨_, _, rfl, upd_same, ?_⟩
        rw [List.take_add_one, hc]
        show Rows _ _ (addGates many most (startGates ns many most) ((startCells ns).take i ++ [c]))
        rw [addGates_snoc]
        refine rows_snoc (gates_put hR e1 (e1 _ _ hws)) ?_
        rw [← hR.1]
        exact hv.put (e1 _ _ hws)
    · rintro σ' G' eG ⟨ws, y, rfl, hws, hR⟩
      refine go_ret (by walk_at "ev") fun H1 e4 => ?_
      rw [List.length_map, List.take_length] at hR
      exact q pg ws H1 hpg (((Ex.new hp40).trans eG).trans e4) (e4 _ _ hws) (rows_imp hR fun _ _ r => r.mono e4)

end

section
variable {P : Program} {w : World} {K : PySem.W.Frag} {mg : Str → Option Value} {base : Heap} {A : Ads}
def sp_l_place (K : PySem.W.Frag) (A : Ads) : Sp := fun vs H Q E => ∃ k n t : Int, vs = [.int k, .int n, .int t] ∧ 0 < n ∧ RetV (.int (placeOf k n t)) H Q
theorem sv_place {K : PySem.W.Frag} {A : Ads} {G : Hp} {k n t : Int} (h : 0 < n) : SpV (sp_l_place K A) [.int k, .int n, .int t] G (.int (placeOf k n t)) := fun _ e _ q _ => ⟨k, n, t, rfl, h, q⟩
theorem ok_l_place {f : Addr} {fd : FuncData} (F : Fun K "_law_place" "_law_place" s_l_place f fd) (T : Txt K w mg A)  : FnOk P w K mg base (L2.CX P w) 1 f fd ["_law_k", "_law_count", "_law_turn"] (sp_l_place K A) := by
  refine F.okX sc_l_place (fun vs H Q E h => ?_) (fun cdv A_ outer s H vs Q E hr h => ?_)
  · obtain ⟨k, n, t, rfl, _⟩ := h; rfl
  · obtain ⟨k, n, t, rfl, hn, q⟩ := h
    refine ⟨_, (pss_cut (ps_if (pt_cmpR op_eq (pe_op op_mod (pv 2) pe_int) pe_int (nomark _)) (pss_cons (ps_set (i := 0) sc_l_place.nd rfl (.inl rfl) (pe_op op_sub (pe_op op_sub (pv 1) pe_int) (pv 0))) pss_nil) pss_nil) (pss_cons (ps_ret (pe_op op_mod (pe_op op_add (pv 0) (pe_op op_fdiv (pv 2) pe_int)) (pv 1))) pss_nil)), ?_⟩
    try dsimp only [cxOf, Cx.blk]
    refine Go.start (σ := [some (.int k), some (.int n), some (.int t)]) ?_
    refine go_cut (fun σ' G' => σ' = [some (.int (if t % 2 = 1 then n - 1 - k else k)), some (.int n), some (.int t)] ∧ Ex H G') (go_ifs (by walk_at "et") (fun h => ?_) (fun h => ?_)) ?_
    · exact go_asg (by walk_at "ev") (go_kn ⟨by rw [if_pos (of_decide_eq_true h)]; rfl, Ex.refl _⟩)
    · exact go_kn ⟨by rw [if_neg (of_decide_eq_false h)], Ex.refl _⟩
    rintro σ' G' ⟨rfl, e1⟩
    refine go_ret (by walk_at "ev") fun H1 e2 => ?_
    exact q H1 (e1.trans e2)

end
local macro_rules | `(tactic| walk_at "sv") => `(tactic| exact sv_place (by walk_at "sd"))

section
variable {P : Program} {w : World} {K : PySem.W.Frag} {mg : Str → Option Value} {base : Heap} {A : Ads}
def sp_l_turned (K : PySem.W.Frag) (A : Ads) : Sp := fun vs H Q E => ∃ (many : Int) (g : Addr) (gs : List Gate) (t : Int), vs = [.int many, .ref g, .int t] ∧ GatesAt K H g gs ∧ gs.length ≤ 1000 ∧ (∀ x ∈ gs, x.srcs.length ≤ 1000) ∧
  ∀ v H', Ex H H' → PlanAt K H' v (turnedM many gs t) → Q v H'
theorem sg_turned {K : PySem.W.Frag} {A : Ads} {G : Hp} {many : Int} {g : Addr} {gs : List Gate} {t : Int} (h : GatesAt K G g gs) (hn : gs.length ≤ 1000) (hs : ∀ x ∈ gs, x.srcs.length ≤ 1000) :
    SpG (sp_l_turned K A) [.int many, .ref g, .int t] G fun v G' => PlanAt K G' v (turnedM many gs t) := fun H e Q _ q =>
  ⟨many, g, gs, t, rfl, h.mono e, hn, hs, fun v H' e' p => q v H' H' (e.trans e') (Ex.refl _) e' p⟩
theorem ok_l_turned {f : Addr} {fd : FuncData} (F : Fun K "_law_turned" "_law_turned" s_l_turned f fd) (T : Txt K w mg A) (c_l_place : CalX P w K mg base 1 "_law_place" (sp_l_place K A)) : FnOk P w K mg base (L2.CX P w) 2 f fd ["_law_many_here", "_law_gates", "_law_turn"] (sp_l_turned K A) := by
  refine F.okX sc_l_turned (fun vs H Q E h => ?_) (fun cdv A_ outer s H vs Q E hr h => ?_)
  · obtain ⟨many, g, gs, t, rfl, _⟩ := h; rfl
  · obtain ⟨many, g, gs, t, rfl, ⟨vs, hL, hR⟩, hlen, hsl, q⟩ := h
    refine ⟨_, (pss_cons (ps_set (i := 3) sc_l_turned.nd rfl (.inl rfl) (pe_op op_rep (pe_lst (pa_cons pe_non pa_nil)) (pe_callB (c_len K) (by rfl) T.n_len PySem.boot_len (pa_cons (pv 1) pa_nil)))) (pss_cons (ps_for (passes_of rfl) rfl (pi_range1 rfl T.n_range (pa_cons (pe_callB (c_len K) (by rfl) T.n_len PySem.boot_len (pa_cons (pv 1) pa_nil)) pa_nil)) (pg_name (i := 4) sc_l_turned.nd rfl (.inl rfl)) (pss_cons (ps_set (i := 5) sc_l_turned.nd rfl (.inl rfl) (pe_lst pa_nil)) (pss_cons (ps_for (passes_of rfl) rfl (pi_T K (pe_ix (ixT K) (pe_ix (ixL K) (pv 1) (pv 4) (fun _ _ => rfl)) pe_int (fun _ _ => rfl))) (pg_name (i := 6) sc_l_turned.nd rfl (.inl rfl)) (pss_cut (ps_if (pt_cmpR op_ge (pv 6) (pv 0) (nomark _)) (pss_cons (ps_set (i := 6) sc_l_turned.nd rfl (.inl rfl) (pe_op op_add (pv 0) (pe_cx c_l_place hr (by decide) rfl (takes_of rfl rfl rfl rfl) (pa_cons (pe_op op_sub (pv 6) (pv 0)) (pa_cons (pe_callB (c_len K) (by rfl) T.n_len PySem.boot_len (pa_cons (pv 1) pa_nil)) (pa_cons (pv 2) pa_nil)))))) pss_nil) pss_nil) (pss_cons (ps_expr (pe_bm PySem.F.plainAttrs_list PySem.F.slot_list_append PySem.F.type_list_append mt_append (pv 5) (pa_cons (pv 6) pa_nil))) pss_nil))) (pss_cons (ps_asg (pe_tup (pa_cons (pe_ix (ixT K) (pe_ix (ixL K) (pv 1) (pv 4) (fun _ _ => rfl)) pe_int (fun _ _ => rfl)) (pa_cons (pe_callTy (c_tup K) (by rfl) T.n_tuple (by decide +kernel) (pa_cons (pv 5) pa_nil)) (pa_cons (pe_ix (ixT K) (pe_ix (ixL K) (pv 1) (pv 4) (fun _ _ => rfl)) pe_int (fun _ _ => rfl)) pa_nil)))) (pg_sub (pv 3) (pe_cx c_l_place hr (by decide) rfl (takes_of rfl rfl rfl rfl) (pa_cons (pv 4) (pa_cons (pe_callB (c_len K) (by rfl) T.n_len PySem.boot_len (pa_cons (pv 1) pa_nil)) (pa_cons (pv 2) pa_nil)))) set_list)) pss_nil)))) (pss_cons (ps_ret (pe_tup (pa_cons (pv 0) (pa_cons (pv 3) pa_nil)))) pss_nil))), ?_⟩
    try dsimp only [cxOf, Cx.blk]
    refine Go.start (σ := [some (.int many), some (.ref g), some (.int t), none, none, none, none]) ?_
    have lv : (vs.length : Int) = gs.length := by rw [hR.1]
    refine go_asgL (el_rep (k := (gs.length : Int)) (el_lst (by walk_at "ea") (by show 1 ≤ 100000; decide)) (ev_is (by walk_at "ev") (by rw [lv])) (by omega) (by omega)) fun pm hpm => ?_
    refine go_forR1 H (n := (gs.length : Int)) (by rw [← lv]; exact ea_cons (ev_len (ev_var rfl) (ex_l (Ex.new hpm) hL)) ea_nil) (by omega) (Ex.new hpm)
      (fun k σ' G' => ∃ ws y1 y2 y3, σ' = [some (.int many), some (.ref g), some (.int t), some (.ref pm), y1, y2, y3] ∧ G' pm = some (.lst ws) ∧ ws.length = gs.length ∧ ∀ i : Nat, i < gs.length → invOf i gs.length t < k → ∃ v, ws[i]? = some v ∧ GateAt K G' v (turnGate many gs.length t (gs.getD (invOf i gs.length t).toNat gate0)))
      ⟨List.replicate (gs.length : Int).toNat .non, none, none, none, rfl, upd_same, by rw [List.length_replicate]; omega, fun i hi hk => by have := (invOf_in (i := (i : Int)) (t := t) (show (0 : Int) < gs.length by omega)).1; omega⟩ ?_ ?_
    · rintro k σ' G1 k0 k1 eG ⟨ws, y1, y2, y3, rfl, hws, lws, hk⟩
      have hn : (0 : Int) < gs.length := by omega
      have kn : k.toNat < gs.length := by omega
      have kk : ((k.toNat : Nat) : Int) = k := by omega
      have hg : gs[k.toNat]? = some gs[k.toNat] := List.getElem?_eq_getElem kn
      obtain ⟨v, hv, ga, gsr, rfl, hG, hS⟩ := rows_get hR hg
      generalize hgt : gs[k.toNat] = gt at *
      have hL1 := ex_l eG hL
      have hG1 := ex_t eG hG
      have hS1 := ex_t eG hS
      have av : atI vs k = some (.ref ga) := by rw [← kk]; exact at_list hv
      have j0 : atI [V.str gt.kind, .ref gsr, .int gt.delay] 0 = some (.str gt.kind) := rfl
      have j1 : atI [V.str gt.kind, .ref gsr, .int gt.delay] 1 = some (.ref gsr) := rfl
      have j2 : atI [V.str gt.kind, .ref gsr, .int gt.delay] 2 = some (.int gt.delay) := rfl
      have lsr := hsl gt (List.mem_of_getElem? hg)
      refine go_asgL (el_lst (by walk_at "ea") (Nat.zero_le _)) fun ps hps => ?_
      have hps0 : H ps = none := eG.none hps
      have nps : ps ≠ pm := Ne.symm (ne_of_none hws hps)
      have eS : Ex G1 (upd G1 ps (.lst [])) := Ex.new hps
      have hL2 := ex_l eS hL1
      have hG2 := ex_t eS hG1
      refine go_forT G1 (by walk_at "ev") eS hS1 (fun i σ' G' => ∃ y, σ' = [some (.int many), some (.ref g), some (.int t), some (.ref pm), some (.int k), some (.ref ps), y] ∧ G' ps = some (.lst (((gt.srcs.take i).map (moved many gs.length t)).map V.int)))
        ⟨_, rfl, upd_same⟩ ?_ ?_
      · rintro i x σ' G' hx eG2 ⟨y, rfl, hp⟩
        rw [List.getElem?_map] at hx
        cases hs : gt.srcs[i]? with
        | none => rw [hs] at hx; cases hx
        | some s =>
          rw [hs] at hx
          cases hx
          have hL3 := ex_l eG2 hL1
          have lvp : Ev (tCB (rLenS K) (tCons (tVar 1) tNil)) [some (.int many), some (.ref g), some (.int t), some (.ref pm), some (.int k), some (.ref ps), some (.int s)] G' (.int (gs.length : Int)) := by rw [← lv]; exact ev_len (ev_var rfl) hL3
          have ll : (((gt.srcs.take i).map (moved many gs.length t)).map V.int).length < 100000 := by rw [List.length_map, List.length_map, List.length_take]; omega
          refine go_cut (fun σ' G2 => σ' = [some (.int many), some (.ref g), some (.int t), some (.ref pm), some (.int k), some (.ref ps), some (.int (moved many gs.length t s))] ∧ G' = G2) (go_ifs (by walk_at "et") (fun h => ?_) (fun h => ?_)) ?_
          · refine go_asg (v := .int (many + placeOf (s - many) gs.length t)) (ev_op (ev_var rfl) (ev_callS (ea_cons (ev_op (ev_var rfl) (ev_var rfl) rv_I0) (ea_cons lvp (ea_cons (ev_var rfl) ea_nil))) (sv_place hn)) rv_I0) (go_kn ⟨?_, rfl⟩)
            unfold moved
            rw [if_pos (of_decide_eq_true h)]
            rfl
          · refine go_kn ⟨?_, rfl⟩
            unfold moved
            rw [if_neg (of_decide_eq_false h)]
            rfl
          rintro σ' G2 ⟨rfl, rfl⟩
          refine go_app (l := ps) (by walk_at "ev") hp (by walk_at "ev") ll ?_
          refine go_kb (Ex.mut eG2 hps) ⟨_, rfl, ?_⟩
          rw [upd_same, List.take_add_one, hs, List.map_append, List.map_append]
          rfl
      · rintro σ' G' eG2 ⟨y, rfl, hp⟩
        rw [List.length_map, List.take_length] at hp
        have hL3 := ex_l eG2 hL1
        have hG3 := ex_t eG2 hG1
        have hp' : SqL K G' ps ((gt.srcs.map (moved many gs.length t)).map V.int) := sq_of hp
        have hws3 : G' pm = some (.lst ws) := eG2 _ _ hws
        obtain ⟨p0, p1⟩ := placeOf_in (k := k) (t := t) hn
        have pj : ((placeOf k gs.length t).toNat : Int) = placeOf k gs.length t := by omega
        refine go_setLP (l := pm) (xs := ws) (j := (placeOf k gs.length t).toNat) (ep_gate (K := K) (by walk_at "ev") (eu_tupL (by walk_at "ev") hp') (by walk_at "ev")) (fun G2 e2 => by walk_at "ev") hws3
          (fun G2 e2 => by
            rw [pj]
            have hL4 := ex_l e2 hL3
            have lvp : Ev (tCB (rLenS K) (tCons (tVar 1) tNil)) [some (.int many), some (.ref g), some (.int t), some (.ref pm), some (.int k), some (.ref ps), y] G2 (.int (gs.length : Int)) := by rw [← lv]; exact ev_len (ev_var rfl) hL4
            exact ev_callS (by walk_at "ea") (sv_place hn)) (by omega) fun v G2 e2 hv2 => ?_
        have hws4 : G2 pm = some (.lst ws) := e2 _ _ hws3
        refine go_kb (Ex.mut ((eG.trans eG2).trans e2) hpm) ⟨_, _, _, _, rfl, upd_same, by rw [List.length_set]; exact lws, fun i hi hik => ?_⟩
        by_cases c : i = (placeOf k gs.length t).toNat
        · subst c
          refine ⟨v, by rw [List.getElem?_set_self (by omega)], ?_⟩
          rw [pj, inv_place k0 k1, List.getD_eq_getElem?_getD, hg]
          exact hv2.put hws4
        · have hik2 : invOf i gs.length t < k := by
            by_cases c2 : invOf i gs.length t = k
            · exfalso
              apply c
              have := place_inv (i := (i : Int)) (n := gs.length) (t := t) (by omega) (by omega)
              rw [c2] at this
              omega
            · omega
          obtain ⟨v', h1, h2⟩ := hk i hi hik2
          exact ⟨v', by rw [List.getElem?_set_ne (Ne.symm c)]; exact h1, (h2.mono (eG2.trans e2)).put hws4⟩
    · rintro σ' G1 eG ⟨ws, y1, y2, y3, rfl, hws, lws, hk⟩
      refine go_retU (eu_tup (by walk_at "ea") (by show 2 ≤ 100000; decide)) fun p H1 hp e1 h1 => ?_
      refine q _ H1 (eG.trans e1) ⟨p, pm, rfl, st_of h1, ws, sq_of (e1 _ _ hws), by show ws.length = ((List.range gs.length).map _).length; rw [List.length_map, List.length_range]; exact lws, fun i v a hv ha => ?_⟩
      have ha : ((List.range gs.length).map fun i : Nat => turnGate many gs.length t (gs.getD (invOf i gs.length t).toNat gate0))[i]? = some a := ha
      have hi : i < gs.length := by have := (List.getElem?_eq_some_iff.mp hv).1; omega
      obtain ⟨v', h2, h3⟩ := hk i hi (by have := (invOf_in (i := (i : Int)) (t := t) (show (0 : Int) < gs.length by omega)).2; omega)
      rw [h2] at hv; cases hv
      rw [List.getElem?_map, List.getElem?_range hi] at ha
      cases ha
      exact h3.mono e1

end

section
variable {P : Program} {w : World} {K : PySem.W.Frag} {mg : Str → Option Value} {base : Heap} {A : Ads}
def sp_l_plan_by (K : PySem.W.Frag) (A : Ads) : Sp := fun vs H Q E => ∃ (a : Addr) (ns : List Int) (most : Int), vs = [.ref a, .int most] ∧ SqL K H a (ns.map V.int) ∧ ns.length ≤ 63 ∧ 0 < most ∧ most ≤ 60 ∧ ∀ v H', Ex H H' → PlanAt K H' v (planBy ns most) → Q v H'
theorem sg_plan_by {K : PySem.W.Frag} {A : Ads} {G : Hp} {a : Addr} {ns : List Int} {most : Int} (h : SqL K G a (ns.map V.int)) (hn : ns.length ≤ 63) (h1 : 0 < most) (h2 : most ≤ 60) :
    SpG (sp_l_plan_by K A) [.ref a, .int most] G fun v G' => PlanAt K G' v (planBy ns most) := fun H e Q _ q =>
  ⟨a, ns, most, rfl, ex_l e h, hn, h1, h2, fun v H' e' p => q v H' H' (e.trans e') (Ex.refl _) e' p⟩
theorem ok_l_plan_by {f : Addr} {fd : FuncData} (F : Fun K "_law_plan_by" "_law_plan_by" s_l_plan_by f fd) (T : Txt K w mg A) (c_l_cell_at : CalX P w K mg base 1 "_law_cell_at" (sp_l_cell_at K A)) (c_l_many : CalX P w K mg base 1 "_law_many" (sp_l_many K A)) (c_l_loose : CalX P w K mg base 3 "_law_loose" (sp_l_loose K A)) (c_l_gates_by : CalX P w K mg base 3 "_law_gates_by" (sp_l_gates_by K A)) (c_l_turned : CalX P w K mg base 2 "_law_turned" (sp_l_turned K A)) : FnOk P w K mg base (L2.CX P w) 4 f fd ["_law_script", "_law_most"] (sp_l_plan_by K A) := by
  refine F.okX sc_l_plan_by (fun vs H Q E h => ?_) (fun cdv A_ outer s H vs Q E hr h => ?_)
  · obtain ⟨a, ns, most, rfl, _⟩ := h; rfl
  · obtain ⟨a, ns, most, rfl, hS, hlen, hm, hm2, q⟩ := h
    refine ⟨_, (pss_cons (ps_set (i := 2) sc_l_plan_by.nd rfl (.inl rfl) (pe_cx c_l_many hr (by decide) rfl (takes_of rfl rfl rfl rfl) (pa_cons (pe_cx c_l_cell_at hr (by decide) rfl (takes_of rfl rfl rfl rfl) (pa_cons (pv 0) (pa_cons pe_int pa_nil))) pa_nil))) (pss_cons (ps_if (pt_cmpR op_gt (pe_op op_mod (pe_cx c_l_cell_at hr (by decide) rfl (takes_of rfl rfl rfl rfl) (pa_cons (pv 0) (pa_cons pe_int pa_nil))) pe_int) pe_int (nomark _)) (pss_cons (ps_ret (pe_cx c_l_loose hr (by decide) rfl (takes_of rfl rfl rfl rfl) (pa_cons (pv 0) (pa_cons (pv 2) (pa_cons (pv 1) pa_nil))))) pss_nil) pss_nil) (pss_cons (ps_ret (pe_cx c_l_turned hr (by decide) rfl (takes_of rfl rfl rfl rfl) (pa_cons (pv 2) (pa_cons (pe_cx c_l_gates_by hr (by decide) rfl (takes_of rfl rfl rfl rfl) (pa_cons (pv 0) (pa_cons (pv 2) (pa_cons (pv 1) pa_nil)))) (pa_cons (pe_cx c_l_cell_at hr (by decide) rfl (takes_of rfl rfl rfl rfl) (pa_cons (pv 0) (pa_cons pe_int pa_nil))) pa_nil))))) pss_nil))), ?_⟩
    try dsimp only [cxOf, Cx.blk]
    refine Go.start (σ := [some (.ref a), some (.int most), none]) ?_
    refine go_asg (by walk_at "ev") ?_
    obtain ⟨m0, m1⟩ := manyOf_in (cell ns 0)
    refine go_when (b := decide (cell ns 1 % 3 > 0)) (by walk_at "et") (fun h => ?_) (fun h => ?_)
    · have h3 : cell ns 1 % 3 > 0 := of_decide_eq_true h
      refine go_retP (ep_call (vs := [.ref a, .int (manyOf (cell ns 0)), .int most]) (by walk_at "ea") (sg_loose hS hlen m0 hm)) fun v G' H1 e1 e2 hp => ?_
      refine q v H1 (e1.trans e2) ?_
      unfold planBy
      rw [if_pos h3]
      exact hp.mono e2
    have h3 : ¬ cell ns 1 % 3 > 0 := of_decide_eq_false h
    have hg := good_gatesBy (ns := ns) (most := most) m0 hm hm2
    refine go_retP (P := fun v G' => PlanAt K G' v (freePlan ns most)) (ep_callP (A := fun xs G' => ∃ vs, xs = .int (manyOf (cell ns 0)) :: vs ∧ ∃ v, vs = v :: [.int (cell ns 2)] ∧ ∃ g, v = .ref g ∧ GatesAt K G' g (gatesBy ns (manyOf (cell ns 0)) most)) (eap_ev (by walk_at "ev") (eap_p (ep_call (vs := [.ref a, .int (manyOf (cell ns 0)), .int most]) (by walk_at "ea") ?_) ?_)) ?_) fun v G' H1 e1 e2 hp => ?_
    · exact (sg_gates_by hS hlen m0 hm).imp fun v G' _ ⟨g, ws, hv, _, hl, hR⟩ => ⟨g, hv, ws, sq_of hl, hR⟩
    · intro v2 G2 e2 _
      have hS2 := ex_l e2 hS
      walk_at "ea"
    · rintro vs G' e ⟨vs1, rfl, v2, rfl, g, rfl, hG⟩
      exact sg_turned hG (by have := gatesBy_len (ns := ns) (many := manyOf (cell ns 0)) (most := most) hlen; omega) (fun x hx => by have := good_short hg x hx; omega)
    · refine q v H1 (e1.trans e2) ?_
      unfold planBy
      rw [if_neg h3]
      exact hp.mono e2

end

section
variable {P : Program} {w : World} {K : PySem.W.Frag} {mg : Str → Option Value} {base : Heap} {A : Ads}
def sp_wants (K : PySem.W.Frag) (A : Ads) : Sp := fun vs H Q E => ∃ z, vs = [.str z] ∧ Out A H Q E (RT1 K fun b : Int × Int => [.int b.1, .int b.2]) (wantsM z)
theorem ok_wants {f : Addr} {fd : FuncData} (F : Fun K "wants" "wants" s_wants f fd) (T : Txt K w mg A)  : FnOk P w K mg base (L2.CX P w) 1 f fd ["kind"] (sp_wants K A) := by
  refine F.okX sc_wants (fun vs H Q E h => ?_) (fun cdv A_ outer s H vs Q E hr h => ?_)
  · obtain ⟨z, rfl, _⟩ := h; rfl
  · obtain ⟨z, rfl, o⟩ := h
    refine ⟨_, (pss_cons (ps_if (pt_cmpR (op_notIn_least T.d_LEAST) (pv 0) (pe_glob (v := .ref A.LEAST) rfl T.c_LEAST rfl) rfl) (pss_cons (ps_raise rfl (takes_of rfl rfl rfl rfl) (pmk_own PySem.F.excBase_ValueError T.x_NoKind T.g_NoKind T.k_NoKind (raises_own T.b_NoKind T.t_NoKind) rfl)) pss_nil) pss_nil) (pss_cons (ps_set (i := 1) sc_wants.nd rfl (.inl rfl) (pe_ix (ix_least T.d_LEAST) (pe_glob (v := .ref A.LEAST) rfl T.c_LEAST rfl) (pv 0) (fun _ _ => rfl))) (pss_cons (ps_if (pt_cmpR op_eq (pv 1) pe_int (nomark _)) (pss_cons (ps_ret (pe_tup (pa_cons (pv 1) (pa_cons (pe_gv rfl T.c_MANY_SOURCES) pa_nil)))) pss_nil) pss_nil) (pss_cons (ps_ret (pe_tup (pa_cons (pv 1) (pa_cons (pv 1) pa_nil)))) pss_nil)))), ?_⟩
    try dsimp only [cxOf, Cx.blk]
    refine Go.start (σ := [some (.str z), none]) ?_
    refine go_when (b := !(least z).isSome) (et_test (ev_op (ev_var rfl) ev_c rv_notLeast)) (fun h => ?_) (fun h => ?_)
    · cases e : least z with
      | none => exact go_raise fun _ _ H1 e1 => o.err .kind (by unfold wantsM; rw [e]) e1
      | some i => rw [e] at h; cases h
    · cases e : least z with
      | none => rw [e] at h; cases h
      | some i =>
        refine go_asg (ev_op ev_c (ev_var rfl) (rv_itLeast e)) ?_
        refine go_when (et_test (by walk_at "ev")) (fun h => ?_) (fun h => ?_)
        · have h2 : i = 2 := of_decide_eq_true h
          refine go_retU (eu_tup (by walk_at "ea") (by show 2 ≤ 100000; decide)) fun p H1 hp e1 h1 => ?_
          exact o.ok (2, 9) (by unfold wantsM; rw [e, h2]; rfl) e1 ⟨p, rfl, by rw [h2] at h1; exact st_of h1⟩
        · have h2 : ¬ i = 2 := of_decide_eq_false h
          refine go_retU (eu_tup (by walk_at "ea") (by show 2 ≤ 100000; decide)) fun p H1 hp e1 h1 => ?_
          exact o.ok (i, i) (by unfold wantsM; rw [e]; simp [h2]) e1 ⟨p, rfl, st_of h1⟩

end

section
variable {P : Program} {w : World} {K : PySem.W.Frag} {mg : Str → Option Value} {base : Heap} {A : Ads}
def sp_checked_gate (K : PySem.W.Frag) (A : Ads) : Sp := fun vs H Q E => ∃ v g lines, vs = [v, .int lines] ∧ GateAt K H v g ∧ Out A H Q E (RV1 fun _ : Unit => .non) (orErr (errGate g lines) ())
theorem ok_checked_gate {f : Addr} {fd : FuncData} (F : Fun K "checked_gate" "checked_gate" s_checked_gate f fd) (T : Txt K w mg A) (c_wants : CalX P w K mg base 1 "wants" (sp_wants K A)) : FnOk P w K mg base (L2.CX P w) 2 f fd ["gate", "lines"] (sp_checked_gate K A) := by
  refine F.okX sc_checked_gate (fun vs H Q E h => ?_) (fun cdv A_ outer s H vs Q E hr h => ?_)
  · obtain ⟨v, g, lines, rfl, _⟩ := h; rfl
  · obtain ⟨v, g, lines, rfl, ⟨ga, gs, rfl, hG, hS⟩, o⟩ := h
    refine ⟨_, (pss_cons (ps_set (i := 2) sc_checked_gate.nd rfl (.inl rfl) (pe_cx c_wants hr (by decide) rfl (takes_of rfl rfl rfl rfl) (pa_cons (pe_ix (ixT K) (pv 0) pe_int (fun _ _ => rfl)) pa_nil))) (pss_cons (ps_if (pt_not (pt_chain op_le op_le (pe_ix (ixT K) (pv 2) pe_int (fun _ _ => rfl)) (pe_callB (c_len K) (by rfl) T.n_len PySem.boot_len (pa_cons (pe_ix (ixT K) (pv 0) pe_int (fun _ _ => rfl)) pa_nil)) (pe_ix (ixT K) (pv 2) pe_int (fun _ _ => rfl)))) (pss_cons (ps_raise rfl (takes_of rfl rfl rfl rfl) (pmk_own PySem.F.excBase_ValueError T.x_NoSources T.g_NoSources T.k_NoSources (raises_own T.b_NoSources T.t_NoSources) rfl)) pss_nil) pss_nil) (pss_cons (ps_for (passes_of rfl) rfl (pi_T K (pe_ix (ixT K) (pv 0) pe_int (fun _ _ => rfl))) (pg_name (i := 3) sc_checked_gate.nd rfl (.inl rfl)) (pss_cons (ps_if (pt_not (pt_chain op_le op_lt pe_int (pv 3) (pv 1))) (pss_cons (ps_raise rfl (takes_of rfl rfl rfl rfl) (pmk_own PySem.F.excBase_ValueError T.x_NoLine T.g_NoLine T.k_NoLine (raises_own T.b_NoLine T.t_NoLine) rfl)) pss_nil) pss_nil) pss_nil)) (pss_cons (ps_if (pt_not (pt_chain op_le op_le pe_int (pe_ix (ixT K) (pv 0) pe_int (fun _ _ => rfl)) (pe_gv rfl T.c_MOST_DELAY))) (pss_cons (ps_raise rfl (takes_of rfl rfl rfl rfl) (pmk_own PySem.F.excBase_ValueError T.x_NoDelay T.g_NoDelay T.k_NoDelay (raises_own T.b_NoDelay T.t_NoDelay) rfl)) pss_nil) pss_nil) pss_nil)))), ?_⟩
    try dsimp only [cxOf, Cx.blk]
    refine Go.start (σ := [some (.ref ga), some (.int lines), none, none]) ?_
    have i0 : atI [V.str g.kind, .ref gs, .int g.delay] 0 = some (.str g.kind) := rfl
    have i1 : atI [V.str g.kind, .ref gs, .int g.delay] 1 = some (.ref gs) := rfl
    have i2 : atI [V.str g.kind, .ref gs, .int g.delay] 2 = some (.int g.delay) := rfl
    cases hw : wantsM g.kind with
    | error x =>
      refine go_asgF (ef_call (by walk_at "ea") fun H1 e1 Q1 => ⟨g.kind, rfl, out_err hw fun H2 e2 => ?_⟩)
      exact o.err x (by unfold errGate; rw [hw]; rfl) (e1.trans e2)
    | ok b =>
      obtain ⟨lo, hi⟩ := b
      refine go_asgP (ep_call (by walk_at "ea") (spg_out (r := wantsM g.kind) (R := RT1 K fun b : Int × Int => [.int b.1, .int b.2]) (A := A) (fun H1 e1 Q1 E1 o1 => ⟨g.kind, rfl, o1⟩) hw)) (fun v G1 e1 hv => ?_)
      obtain ⟨H0, _, _, p, rfl, hp⟩ := hv
      have hp : SqT K G1 p [.int lo, .int hi] := hp
      have hG1 := ex_t e1 hG
      have hS1 := ex_t e1 hS
      have j0 : atI [V.int lo, V.int hi] 0 = some (.int lo) := rfl
      have j1 : atI [V.int lo, V.int hi] 1 = some (.int hi) := rfl
      have hl : (g.srcs.map V.int).length = g.srcs.length := List.length_map _
      refine go_when (by walk_at "et") (fun h => ?_) (fun h => ?_)
      · have h2 : ¬ (lo ≤ (g.srcs.length : Int) ∧ (g.srcs.length : Int) ≤ hi) := fun ⟨p, q⟩ => by simp [p, q] at h
        exact go_raise fun _ _ H1 e2 => o.err .sources (by unfold errGate; rw [hw]; simp only [h2, not_false_eq_true, if_true]; rfl) (e1.trans e2)
      have h2 : lo ≤ (g.srcs.length : Int) ∧ (g.srcs.length : Int) ≤ hi := by simpa using h
      refine go_forT G1 (by walk_at "ev") (Ex.refl _) hS1 (fun i σ' G' => ∃ y, σ' = [some (.ref ga), some (.int lines), some (.ref p), y] ∧ ∀ k, k < i → ∀ s, g.srcs[k]? = some s → 0 ≤ s ∧ s < lines) ⟨none, rfl, fun k hk => by omega⟩ ?_ ?_
      · rintro i x σ' G' hx e2 ⟨y, rfl, hk⟩
        rw [List.getElem?_map] at hx
        cases hs : g.srcs[i]? with
        | none => rw [hs] at hx; cases hx
        | some s =>
          rw [hs] at hx
          cases hx
          refine go_when (by walk_at "et") (fun h => ?_) (fun h => ?_)
          · have h3 : ¬ (0 ≤ s ∧ s < lines) := fun ⟨p, q⟩ => by simp [p, q] at h
            have h4 : (g.srcs.any fun s => !(decide (0 ≤ s) && decide (s < lines))) = true := List.any_eq_true.mpr ⟨s, List.mem_of_getElem? hs, h⟩
            exact go_raise fun _ _ H1 e3 => o.err .line (by unfold errGate; rw [hw]; simp only [h2, and_self, not_true_eq_false, if_false, h4, if_true]; rfl) ((e1.trans e2).trans e3)
          · have h3 : 0 ≤ s ∧ s < lines := by simpa using h
            refine go_kb e2 ⟨_, rfl, fun k hk' s' hs' => ?_⟩
            by_cases c : k = i
            · subst c; rw [hs] at hs'; cases hs'; exact h3
            · exact hk k (by omega) s' hs'
      · rintro σ' G' e2 ⟨y, rfl, hk⟩
        have hG2 := ex_t e2 hG1
        have h4 : (g.srcs.any fun s => !(decide (0 ≤ s) && decide (s < lines))) = false := by
          rw [List.any_eq_false]
          intro s hs
          obtain ⟨k, hk1, hk2⟩ := List.getElem_of_mem hs
          have := hk k (by rw [List.length_map]; exact hk1) s (by rw [List.getElem?_eq_getElem hk1, hk2])
          simp [this.1, this.2]
        refine go_when (by walk_at "et") (fun h => ?_) (fun h => ?_)
        · have h3 : ¬ (1 ≤ g.delay ∧ g.delay ≤ 60) := fun ⟨p, q⟩ => by simp [p, q] at h
          exact go_raise fun _ _ H1 e3 => o.err .delay (by unfold errGate; rw [hw]; simp only [h2, and_self, not_true_eq_false, if_false, h4, h3, not_false_eq_true, if_true]; rfl) ((e1.trans e2).trans e3)
        · have h3 : 1 ≤ g.delay ∧ g.delay ≤ 60 := by simpa using h
          exact go_next fun H1 e3 => o.ok () (by unfold errGate; rw [hw]; simp only [h2, and_self, not_true_eq_false, if_false, h4, h3]; rfl) ((e1.trans e2).trans e3) rfl

end

section
variable {P : Program} {w : World} {K : PySem.W.Frag} {mg : Str → Option Value} {base : Heap} {A : Ads}
def sp_checked (K : PySem.W.Frag) (A : Ads) : Sp := fun vs H Q E => ∃ v p, vs = [v] ∧ PlanAt K H v p ∧ Out A H Q E (RV1 V.int) (checkedM p)
theorem sv_checked {K : PySem.W.Frag} {A : Ads} {G : Hp} {v : V} {p : Plan} (h : PlanAt K G v p) (hv : Valid p) : SpV (sp_checked K A) [v] G (.int p.lines) :=
  spv_out (r := checkedM p) (A := A) (f := V.int) (fun H1 e1 Q1 E1 o1 => ⟨v, p, rfl, h.mono e1, o1⟩) (by unfold checkedM; rw [valid_iff.mpr hv]; rfl)
theorem ok_checked {f : Addr} {fd : FuncData} (F : Fun K "checked" "checked" s_checked f fd) (T : Txt K w mg A) (c_checked_gate : CalX P w K mg base 2 "checked_gate" (sp_checked_gate K A)) : FnOk P w K mg base (L2.CX P w) 3 f fd ["plan"] (sp_checked K A) := by
  refine F.okX sc_checked (fun vs H Q E h => ?_) (fun cdv A_ outer s H vs Q E hr h => ?_)
  · obtain ⟨v, p, rfl, _⟩ := h; rfl
  · obtain ⟨v, p, rfl, ⟨a, g, rfl, hP, vs, hL, hR⟩, o⟩ := h
    refine ⟨_, (pss_cons (ps_if (PW.pt (pw_or (pt_not (pt_chain op_le op_le pe_int (pe_ix (ixT K) (pv 0) pe_int (fun _ _ => rfl)) (pe_gv rfl T.c_MANY_INPUTS))) (pw_or1 (pt_cmpR op_gt (pe_callB (c_len K) (by rfl) T.n_len PySem.boot_len (pa_cons (pe_ix (ixT K) (pv 0) pe_int (fun _ _ => rfl)) pa_nil)) (pe_gv rfl T.c_MANY_GATES) (nomark _))))) (pss_cons (ps_raise rfl (takes_of rfl rfl rfl rfl) (pmk_own PySem.F.excBase_ValueError T.x_NoSize T.g_NoSize T.k_NoSize (raises_own T.b_NoSize T.t_NoSize) rfl)) pss_nil) pss_nil) (pss_cons (ps_set (i := 1) sc_checked.nd rfl (.inl rfl) (pe_op op_add (pe_ix (ixT K) (pv 0) pe_int (fun _ _ => rfl)) (pe_callB (c_len K) (by rfl) T.n_len PySem.boot_len (pa_cons (pe_ix (ixT K) (pv 0) pe_int (fun _ _ => rfl)) pa_nil)))) (pss_cons (ps_for (passes_of rfl) rfl (pi_L K (pe_ix (ixT K) (pv 0) pe_int (fun _ _ => rfl))) (pg_name (i := 2) sc_checked.nd rfl (.inl rfl)) (pss_cons (ps_expr (pe_cx c_checked_gate hr (by decide) rfl (takes_of rfl rfl rfl rfl) (pa_cons (pv 2) (pa_cons (pv 1) pa_nil)))) pss_nil)) (pss_cons (ps_ret (pv 1)) pss_nil)))), ?_⟩
    try dsimp only [cxOf, Cx.blk]
    refine Go.start (σ := [some (.ref a), none, none]) ?_
    have i0 : atI [V.int p.many, .ref g] 0 = some (.int p.many) := rfl
    have i1 : atI [V.int p.many, .ref g] 1 = some (.ref g) := rfl
    have hl : (vs.length : Int) = p.gates.length := by rw [hR.1]
    refine go_when (by walk_at "et") (fun h => ?_) (fun h => ?_)
    · have h2 : ¬ (0 ≤ p.many ∧ p.many ≤ 60) ∨ 200 < p.gates.length := by
        by_cases c : 0 ≤ p.many ∧ p.many ≤ 60
        · right
          simp only [c.1, c.2, decide_true, Bool.and_self, Bool.not_true, Bool.false_or, decide_eq_true_eq] at h
          omega
        · exact .inl c
      exact go_raise fun _ _ H1 e2 => o.err .size (by unfold checkedM errPlan; rw [if_pos h2]; rfl) e2
    have h2 : ¬ (¬ (0 ≤ p.many ∧ p.many ≤ 60) ∨ 200 < p.gates.length) := by
      simp only [Bool.or_eq_false_iff, Bool.not_eq_false', Bool.and_eq_true, decide_eq_true_eq, decide_eq_false_iff_not] at h
      rintro (c | c)
      · exact c h.1
      · have := h.2; omega
    refine go_asg (v := .int p.lines) (ev_is (by walk_at "ev") (by rw [hl]; rfl)) ?_
    refine go_forL H (by walk_at "ev") (Ex.refl _) hL (fun i σ' G' => ∃ y, σ' = [some (.ref a), some (.int p.lines), y] ∧ ∀ k g, k < i → p.gates[k]? = some g → errGate g p.lines = none) ⟨none, rfl, fun k g hk => by omega⟩ ?_ ?_
    · rintro i x σ' G' hx e2 ⟨y, rfl, hk⟩
      obtain ⟨gt, hg, hga⟩ := rows_get' hR hx
      cases he : errGate gt p.lines with
      | some e =>
        refine go_dropF (ef_call (by walk_at "ea") fun H1 e1 Q1 => ⟨x, gt, p.lines, rfl, hga.mono (e2.trans e1), out_err (x := e) (by rw [he]; rfl) fun H2 e3 => ?_⟩)
        exact o.err e (by unfold checkedM errPlan; rw [if_neg h2, errGates_first hk hg he]; rfl) ((e2.trans e1).trans e3)
      | none =>
        refine go_drop (ev_callS (by walk_at "ea") (spv_out (r := orErr (errGate gt p.lines) ()) (A := A) (f := fun _ : Unit => .non) (a := ()) (fun H1 e1 Q1 E1 o1 => ⟨x, gt, p.lines, rfl, hga.mono (e2.trans e1), o1⟩) (by rw [he]; rfl))) ?_
        refine go_kb e2 ⟨_, rfl, fun k g' hk' hg' => ?_⟩
        by_cases c : k = i
        · subst c; rw [hg] at hg'; cases hg'; exact he
        · exact hk k g' (by omega) hg'
    · rintro σ' G' e2 ⟨y, rfl, hk⟩
      refine go_ret (by walk_at "ev") fun H1 e3 => o.ok p.lines ?_ (e2.trans e3) rfl
      unfold checkedM errPlan
      rw [if_neg h2, errGates_all fun k g hg => hk k g (by rw [hR.1]; exact (List.getElem?_eq_some_iff.mp hg).1) hg]
      rfl

end
local macro_rules | `(tactic| walk_at "sv") => `(tactic| exact sv_checked (by walk_at "sd") (by walk_at "sd"))

section
variable {P : Program} {w : World} {K : PySem.W.Frag} {mg : Str → Option Value} {base : Heap} {A : Ads}
def sp_kept_lines (K : PySem.W.Frag) (A : Ads) : Sp := fun vs H Q E => ∃ v p b outs, vs = [v, .ref b] ∧ PlanAt K H v p ∧ Valid p ∧ SqL K H b ((outs : List Int).map V.int) ∧ (∀ o ∈ outs, 0 ≤ o ∧ o < p.lines) ∧ outs.length ≤ 4000 ∧
  ∀ k q H', (k.length : Int) = p.lines → (∀ l : Int, 0 ≤ l → l < p.lines → (k.getD l.toNat false = true ↔ Kept p outs l)) → H q = none → Ex H H' → H' q = some (.lst ((k : List Bool).map V.bl)) → Q (.ref q) H'
theorem sg_kept_lines {K : PySem.W.Frag} {A : Ads} {G : Hp} {v : V} {p : Plan} {b : Addr} {outs : List Int} (h : PlanAt K G v p) (hv : Valid p) (hb : SqL K G b (outs.map V.int)) (ho : ∀ o ∈ outs, 0 ≤ o ∧ o < p.lines) (hn : outs.length ≤ 4000) :
    SpG (sp_kept_lines K A) [v, .ref b] G fun v G' => ∃ q, ∃ k : List Bool, v = .ref q ∧ (k.length : Int) = p.lines ∧ (∀ l : Int, 0 ≤ l → l < p.lines → (k.getD l.toNat false = true ↔ Kept p outs l)) ∧ G q = none ∧ G' q = some (.lst (k.map V.bl)) := fun H e Q _ q =>
  ⟨v, p, b, outs, rfl, h.mono e, hv, ex_l e hb, ho, hn, fun k x H' h1 h2 h3 h4 h5 => q _ H' H' (e.trans h4) (Ex.refl _) h4 ⟨x, k, rfl, h1, h2, e.none h3, h5⟩⟩
theorem ok_kept_lines {f : Addr} {fd : FuncData} (F : Fun K "kept_lines" "kept_lines" s_kept_lines f fd) (T : Txt K w mg A)  : FnOk P w K mg base (L2.CX P w) 1 f fd ["plan", "outs"] (sp_kept_lines K A) := by
  refine F.okX sc_kept_lines (fun vs H Q E h => ?_) (fun cdv A_ outer s H vs Q E hr h => ?_)
  · obtain ⟨v, p, b, outs, rfl, _⟩ := h; rfl
  · obtain ⟨v, p, b, outs, rfl, ⟨a, g, rfl, hP, ws, hL, hR⟩, hv, hB, ho, hn, q⟩ := h
    refine ⟨_, (pss_cons (ps_setLc (i := 3) (own := [("line", 2)]) (g := gName 2) (tt := tYes) rfl sc_kept_lines.nd rfl rfl (sw_true rfl rfl rfl (by decide +kernel)) (pi_range1 rfl T.n_range (pa_cons (pe_op op_add (pe_ix (ixT K) (pv 0) pe_int (fun _ _ => rfl)) (pe_callB (c_len K) (by rfl) T.n_len PySem.boot_len (pa_cons (pe_ix (ixT K) (pv 0) pe_int (fun _ _ => rfl)) pa_nil))) pa_nil)) (blkOk_by (own := [("line", 2)]) (N := ["plan", "outs", "line", "kept", "waiting", "source"]) (sc := defScope s_kept_lines) (by decide +kernel)) (fun _ _ _ _ _ => pg_name (i := 2) sc_kept_lines.nd rfl (Or.inl rfl)) (fun _ _ _ _ _ => pts_nil) (fun _ _ _ _ _ => (pe_cmpR op_lt (pv 2) (pe_ix (ixT K) (pv 0) pe_int (fun _ _ => rfl)) (nomark _)))) (pss_cons (ps_set (i := 4) sc_kept_lines.nd rfl (.inl rfl) (pe_callTy (c_list K) (by rfl) T.n_list (by decide +kernel) (pa_cons (pv 1) pa_nil))) (pss_cons (ps_while (passes_of rfl) (pt_truK K (pv 4)) (pss_cons (ps_set (i := 2) sc_kept_lines.nd rfl (.inl rfl) (pe_bm0 PySem.F.plainAttrs_list PySem.F.slot_list_pop PySem.F.type_list_pop mt_pop (pv 4))) (pss_cut (ps_if (pt_not (pt_val (pe_ix (ixL K) (pv 3) (pv 2) (fun _ _ => rfl)))) (pss_cons (ps_asg pe_bl (pg_sub (pv 3) (pv 2) set_list)) (pss_cons (ps_for (passes_of rfl) rfl (pi_T K (pe_ix (ixT K) (pe_ix (ixL K) (pe_ix (ixT K) (pv 0) pe_int (fun _ _ => rfl)) (pe_op op_sub (pv 2) (pe_ix (ixT K) (pv 0) pe_int (fun _ _ => rfl))) (fun _ _ => rfl)) pe_int (fun _ _ => rfl))) (pg_name (i := 5) sc_kept_lines.nd rfl (.inl rfl)) (pss_cons (ps_expr (pe_bm PySem.F.plainAttrs_list PySem.F.slot_list_append PySem.F.type_list_append mt_append (pv 4) (pa_cons (pv 5) pa_nil))) pss_nil)) pss_nil)) pss_nil) pss_nil))) (pss_cons (ps_ret (pv 3)) pss_nil)))), ?_⟩
    try dsimp only [cxOf, Cx.blk]
    refine Go.start (σ := [some (.ref a), some (.ref b), none, none, none, none]) ?_
    obtain ⟨m0, m60, n200, hgate⟩ := id hv
    have hwl := hR.1
    have i0 : atI [V.int p.many, .ref g] 0 = some (.int p.many) := rfl
    have i1 : atI [V.int p.many, .ref g] 1 = some (.ref g) := rfl
    have hln : p.many + (ws.length : Int) = p.lines := by unfold Plan.lines; rw [hwl]
    refine go_asgL (xs := (done0 p).map V.bl) ?_ fun pk hpk => ?_
    · unfold done0
      rw [List.map_map]
      exact el_lcR (n := p.lines) (fun k => .bl (decide (k < p.many))) (ea_cons (by rw [← hln]; exact ev_op (ev_op (ev_var rfl) ev_c (rv_ixT hP i0)) (ev_len (ev_op (ev_var rfl) ev_c (rv_ixT hP i1)) hL) rv_I0) ea_nil) (by omega) (fun _ => rfl) fun k k0 k1 => ev_op (ev_var rfl) (ev_op (ev_var rfl) ev_c (rv_ixT hP i0)) rv_I0
    refine go_asgL (el_list (ev_var rfl) (ex_l (Ex.new hpk) hB)) fun pw hpw => ?_
    obtain ⟨npw, hpw0⟩ := none_upd.mp hpw
    have hl0 : 0 ≤ p.lines := by omega
    refine go_while (fun m σ' G' => ∃ k w x y, σ' = [some (.ref a), some (.ref b), x, some (.ref pk), some (.ref pw), y] ∧ Ex H G' ∧ G' pk = some (.lst ((k : List Bool).map V.bl)) ∧ G' pw = some (.lst ((w : List Int).map V.int)) ∧ KeptInv p outs k w ∧ 10 * cntF k + w.length = m ∧ m ≤ 20000) (10 * cntF (done0 p) + outs.length) ⟨done0 p, outs, none, none, rfl, Ex.mut (Ex.new hpk) hpw0, by rw [upd_ne (Ne.symm npw), upd_same], upd_same, keptInv0 hv, rfl, by rw [cntF_done0 m0]; omega⟩ ?_
    rintro m σ' G' ⟨k, w, x, y, rfl, e, hk, hw, hI, hm, hmm⟩
    refine ⟨!(w.map V.int).isEmpty, et_truL (ev_var rfl) (sq_of hw) rfl, fun hb => ?_, fun hb => ?_⟩
    · have hne : w ≠ [] := by rintro rfl; cases hb
      obtain ⟨w', l, rfl⟩ : ∃ w' l, w = w' ++ [l] := ⟨w.dropLast, w.getLast hne, (List.dropLast_concat_getLast hne).symm⟩
      rw [List.length_append, List.length_cons, List.length_nil] at hm
      obtain ⟨l0, l1⟩ := (hI.wt l (List.mem_append_right _ (List.mem_singleton.mpr rfl))).range hv ho
      have hkl := hI.len
      rw [List.map_append] at hw
      refine go_pop (l := pw) (xs := w'.map V.int) (x := .int l) (ev_var rfl) hw ?_
      have npk : pk ≠ pw := Ne.symm npw
      have e2 : Ex H (upd G' pw (.lst (w'.map V.int))) := Ex.mut e hpw0
      have hk2 : (upd G' pw (.lst (w'.map V.int))) pk = some (.lst (k.map V.bl)) := by rw [upd_ne npk]; exact hk
      have hw2 : (upd G' pw (.lst (w'.map V.int))) pw = some (.lst (w'.map V.int)) := upd_same
      generalize upd G' pw (.lst (w'.map V.int)) = G2 at *
      have hx : atI (k.map V.bl) l = some (.bl (k.getD l.toNat false)) := at_map V.bl k false l0 (by omega)
      refine go_cutN (go_ifs (b := !(k.getD l.toNat false)) (et_not (et_B (ev_op (ev_var rfl) (ev_var rfl) (rv_ixL (sq_of hk2) hx)))) (fun hd => ?_) (fun hd => ?_))
      · have hd2 : k.getD l.toNat false = false := by simpa using hd
        obtain ⟨lm, _, hI2, hc⟩ := hI.mark hv ho hd2
        obtain ⟨hg, hgm⟩ := gateN_get lm l1
        obtain ⟨wv, hwv, hGA⟩ := rows_get hR hg
        obtain ⟨ga, gs, rfl, hG, hS⟩ := hGA
        have hz := gate_short (hgate _ hgm)
        generalize gateN p l = gt at *
        have j1 : atI [V.str gt.kind, .ref gs, .int gt.delay] 1 = some (.ref gs) := rfl
        have k2 : atI ws (l - p.many) = some (.ref ga) := by
          rw [show l - p.many = ((l - p.many).toNat : Int) by omega]; exact at_list hwv
        refine go_setL (j := l.toNat) (v := .bl true) ev_c (ev_var rfl) hk2 (ev_is (ev_var rfl) (by rw [Int.toNat_of_nonneg l0])) (by rw [List.length_map]; omega) ?_
        have e3 : Ex H (upd G2 pk (.lst ((k.map V.bl).set l.toNat (.bl true)))) := Ex.mut e2 hpk
        have hk3 : (upd G2 pk (.lst ((k.map V.bl).set l.toNat (.bl true)))) pk = some (.lst ((k.set l.toNat true).map V.bl)) := by rw [upd_same, List.map_set]
        have hw3 : (upd G2 pk (.lst ((k.map V.bl).set l.toNat (.bl true)))) pw = some (.lst (w'.map V.int)) := by rw [upd_ne npw]; exact hw2
        generalize upd G2 pk (.lst ((k.map V.bl).set l.toNat (.bl true))) = G3 at *
        refine go_forT H (ev_op (ev_op (ev_op (ev_var rfl) ev_c (rv_ixT (ex_t e3 hP) i1)) (ev_op (ev_var rfl) (ev_op (ev_var rfl) ev_c (rv_ixT (ex_t e3 hP) i0)) rv_I0) (rv_ixL (ex_l e3 hL) k2)) ev_c (rv_ixT (ex_t e3 hG) j1)) e3 hS (fun i σ' G' => ∃ y, σ' = [some (.ref a), some (.ref b), some (.int l), some (.ref pk), some (.ref pw), y] ∧ G' pk = some (.lst ((k.set l.toNat true).map V.bl)) ∧ G' pw = some (.lst ((w' ++ gt.srcs.take i).map V.int))) ⟨y, rfl, hk3, by rw [List.take_zero, List.append_nil]; exact hw3⟩ ?_ ?_
        · rintro i sv σ2 G4 hs e4 ⟨y2, rfl, hk4, hw4⟩
          rw [List.getElem?_map] at hs
          cases hsi : gt.srcs[i]? with
          | none => rw [hsi] at hs; cases hs
          | some sl =>
            rw [hsi] at hs
            cases hs
            refine go_app (l := pw) (xs := (w' ++ gt.srcs.take i).map V.int) (v := .int sl) (ev_var rfl) hw4 (ev_var rfl) (by rw [List.length_map, List.length_append, List.length_take]; omega) ?_
            refine go_kb (Ex.mut e4 hpw0) ⟨_, rfl, by rw [upd_ne npk]; exact hk4, ?_⟩
            rw [upd_same, List.take_add_one, hsi]
            simp only [List.map_append, List.append_assoc]
            rfl
        · rintro σ2 G4 e4 ⟨y2, rfl, hk4, hw4⟩
          rw [List.length_map, List.take_length] at hw4
          refine go_kn ⟨m - 10 + gt.srcs.length - 1, by omega, k.set l.toNat true, w' ++ gt.srcs, _, _, rfl, e4, hk4, hw4, hI2, by rw [List.length_append]; omega, by omega⟩
      · have hd2 : k.getD l.toNat false = true := by simpa using hd
        exact go_kn ⟨m - 1, by omega, k, w', _, _, rfl, e2, hk2, hw2, hI.skip hd2, by omega, by omega⟩
    · have hne : w = [] := by
        cases w with
        | nil => rfl
        | cons x r => cases hb
      subst hne
      exact go_ret (ev_var rfl) fun H1 e1 => q k pk H1 hI.len (hI.done hv ho) hpk (e.trans e1) (e1 _ _ hk)

end

section
variable {P : Program} {w : World} {K : PySem.W.Frag} {mg : Str → Option Value} {base : Heap} {A : Ads}
def RTrim (K : PySem.W.Frag) : Hp → V → Hp → Plan × List Int → Prop := fun H v H' r => ∃ t pl st gl gw, v = .ref t ∧ SqT K H' t [.ref pl, .ref st] ∧ SqT K H' pl [.int r.1.many, .ref gl] ∧ H gl = none ∧ H' gl = some (.lst gw) ∧ Rows (GateAt K H') gw r.1.gates ∧ H st = none ∧ H' st = some (.lst (r.2.map V.int)) ∧ gl ≠ st
def sp_trimmed (K : PySem.W.Frag) (A : Ads) : Sp := fun vs H Q E => ∃ v p b outs, vs = [v, .ref b] ∧ PlanAt K H v p ∧ SqL K H b ((outs : List Int).map V.int) ∧ outs.length ≤ 4000 ∧ Out A H Q E (RTrim K) (trimR p outs)
theorem sg_trimmed {K : PySem.W.Frag} {A : Ads} {G : Hp} {v : V} {p : Plan} {b : Addr} {outs : List Int} (h : PlanAt K G v p) (hb : SqL K G b (outs.map V.int)) (hn : outs.length ≤ 4000) {r : Plan × List Int} (hr : trimR p outs = .ok r) :
    SpG (sp_trimmed K A) [v, .ref b] G fun v G' => ∃ H0, Ex G H0 ∧ Ex H0 G' ∧ RTrim K H0 v G' r := spg_out (r := trimR p outs) (A := A) (R := RTrim K) (fun H1 e1 Q1 E1 o1 => ⟨v, p, b, outs, rfl, h.mono e1, ex_l e1 hb, hn, o1⟩) hr
theorem ok_trimmed {f : Addr} {fd : FuncData} (F : Fun K "trimmed" "trimmed" s_trimmed f fd) (T : Txt K w mg A) (c_checked : CalX P w K mg base 3 "checked" (sp_checked K A)) (c_kept_lines : CalX P w K mg base 1 "kept_lines" (sp_kept_lines K A)) : FnOk P w K mg base (L2.CX P w) 4 f fd ["plan", "outs"] (sp_trimmed K A) := by
  refine F.okX sc_trimmed (fun vs H Q E h => ?_) (fun cdv A_ outer s H vs Q E hr h => ?_)
  · obtain ⟨v, p, b, outs, rfl, _⟩ := h; rfl
  · obtain ⟨v, p, b, outs, rfl, hP0, hB, hn, o⟩ := h
    refine ⟨_, (pss_cons (ps_set (i := 2) sc_trimmed.nd rfl (.inl rfl) (pe_cx c_checked hr (by decide) rfl (takes_of rfl rfl rfl rfl) (pa_cons (pv 0) pa_nil))) (pss_cons (ps_for (passes_of rfl) rfl (pi_L K (pv 1)) (pg_name (i := 3) sc_trimmed.nd rfl (.inl rfl)) (pss_cons (ps_if (pt_not (pt_chain op_le op_lt pe_int (pv 3) (pv 2))) (pss_cons (ps_raise rfl (takes_of rfl rfl rfl rfl) (pmk_own PySem.F.excBase_ValueError T.x_NoLine T.g_NoLine T.k_NoLine (raises_own T.b_NoLine T.t_NoLine) rfl)) pss_nil) pss_nil) pss_nil)) (pss_cons (ps_set (i := 4) sc_trimmed.nd rfl (.inr rfl) (pe_cx c_kept_lines hr (by decide) rfl (takes_of rfl rfl rfl rfl) (pa_cons (pv 0) (pa_cons (pv 1) pa_nil)))) (pss_cons (ps_setLc (i := 5) (own := [("line", 3)]) (g := gName 3) rfl sc_trimmed.nd rfl rfl (sw_true rfl rfl rfl (by decide +kernel)) (pi_range1 rfl T.n_range (pa_cons (pv 2) pa_nil)) (blkOk_by (own := [("line", 3)]) (N := ["plan", "outs", "lines", "line", "kept", "stay", "places", "place", "gates", "gate", "source"]) (sc := defScope s_trimmed) (by decide +kernel)) (fun _ _ _ _ _ => pg_name (i := 3) sc_trimmed.nd rfl (Or.inl rfl)) (fun _ _ _ _ _ => (pts_one (pt_val (pe_ix (ixL K) (pv 4) (pv 3) (fun _ _ => rfl))))) (fun _ _ _ _ _ => (pv 3))) (pss_cons (ps_set (i := 6) sc_trimmed.nd rfl (.inr rfl) pe_dnewK) (pss_cons (ps_for (passes_of rfl) rfl (pi_enum (by rfl) T.n_enumerate (pa_cons (pv 5) pa_nil)) (pg_tup rfl (pgs_cons (pg_name (i := 7) sc_trimmed.nd rfl (.inl rfl)) (pgs_cons (pg_name (i := 3) sc_trimmed.nd rfl (.inl rfl)) pgs_nil))) (pss_cons (ps_dput (hu_of hr) (pv 6) (pv 3) (pv 7) rfl) pss_nil)) (pss_cons (ps_set (i := 8) sc_trimmed.nd rfl (.inl rfl) (pe_lst pa_nil)) (pss_cons (ps_for (passes_of rfl) rfl (pi_L K (pv 5)) (pg_name (i := 3) sc_trimmed.nd rfl (.inl rfl)) (pss_cut (ps_if (pt_cmpR op_ge (pv 3) (pe_ix (ixT K) (pv 0) pe_int (fun _ _ => rfl)) (nomark _)) (pss_cons (ps_set (i := 9) sc_trimmed.nd rfl (.inl rfl) (pe_ix (ixL K) (pe_ix (ixT K) (pv 0) pe_int (fun _ _ => rfl)) (pe_op op_sub (pv 3) (pe_ix (ixT K) (pv 0) pe_int (fun _ _ => rfl))) (fun _ _ => rfl))) (pss_cons (ps_expr (pe_bm PySem.F.plainAttrs_list PySem.F.slot_list_append PySem.F.type_list_append mt_append (pv 8) (pa_cons (pe_tup (pa_cons (pe_ix (ixT K) (pv 9) pe_int (fun _ _ => rfl)) (pa_cons (pe_callTy (c_tup K) (by rfl) T.n_tuple (by decide +kernel) (pa_cons (pe_lc (own := [("source", 10)]) (g := gName 10) (tt := tYes) rfl sc_trimmed.nd (pi_T K (pe_ix (ixT K) (pv 9) pe_int (fun _ _ => rfl))) (blkOk_by (own := [("source", 10)]) (N := ["plan", "outs", "lines", "line", "kept", "stay", "places", "place", "gates", "gate", "source"]) (sc := defScope s_trimmed) (by decide +kernel)) (fun _ _ _ _ _ => pg_name (i := 10) sc_trimmed.nd rfl (Or.inl rfl)) (fun _ _ _ _ _ => pts_nil) (fun _ _ _ _ _ => (pe_dget (hu_of hr) (pv 6) (pv 10) (fun _ _ => rfl)))) pa_nil)) (pa_cons (pe_ix (ixT K) (pv 9) pe_int (fun _ _ => rfl)) pa_nil)))) pa_nil))) pss_nil)) pss_nil) pss_nil)) (pss_cons (ps_ret (pe_tup (pa_cons (pe_tup (pa_cons (pe_ix (ixT K) (pv 0) pe_int (fun _ _ => rfl)) (pa_cons (pv 8) pa_nil))) (pa_cons (pv 5) pa_nil)))) pss_nil))))))))), ?_⟩
    try dsimp only [cxOf, Cx.blk]
    refine Go.start (σ := [some v, some (.ref b), none, none, none, none, none, none, none, none, none]) ?_
    cases he : errPlan p with
    | some e =>
      refine go_asgF (ef_call (ea_cons (ev_var rfl) ea_nil) fun H1 e1 Q1 => ⟨v, p, rfl, hP0.mono e1, out_err (x := e) (by unfold checkedM; rw [he]; rfl) fun H2 e2 => ?_⟩)
      exact o.err e (by unfold trimR; rw [he]) (e1.trans e2)
    | none =>
      have hv := valid_iff.mp he
      obtain ⟨m0, m60, n200, hgate⟩ := id hv
      have hl0 : 0 ≤ p.lines := by unfold Plan.lines; omega
      have hl1 : p.lines ≤ 260 := by unfold Plan.lines; omega
      refine go_asg (v := .int p.lines) (ev_callS (ea_cons (ev_var rfl) ea_nil) (sv_checked hP0 hv)) ?_
      refine go_forL H (ev_var rfl) (Ex.refl _) hB (fun i σ' G' => ∃ x, σ' = [some v, some (.ref b), some (.int p.lines), x, none, none, none, none, none, none, none] ∧ ∀ o ∈ outs.take i, 0 ≤ o ∧ o < p.lines) ⟨none, rfl, fun o h => (by rw [List.take_zero] at h; cases h)⟩ ?_ ?_
      · rintro i x σ' G' hx e ⟨y, rfl, hk⟩
        rw [List.getElem?_map] at hx
        cases hl : outs[i]? with
        | none => rw [hl] at hx; cases hx
        | some l =>
          rw [hl] at hx
          cases hx
          refine go_when (b := !(decide ((0 : Int) ≤ l) && decide (l < p.lines))) (et_not (et_test (ev_chI ev_c (ev_var rfl) (ev_var rfl)))) (fun h => ?_) (fun h => ?_)
          · have h2 : ¬ (0 ≤ l ∧ l < p.lines) := by
              rintro ⟨h3, h4⟩
              rw [decide_eq_true h3, decide_eq_true h4] at h; cases h
            exact go_raise fun _ _ H1 e2 => o.err .line (trimR_line hv (List.mem_of_getElem? hl) h2) (e.trans e2)
          · have h2 : 0 ≤ l ∧ l < p.lines := by
              simpa only [Bool.not_eq_false', Bool.and_eq_true, decide_eq_true_eq] using h
            refine go_kb e ⟨_, rfl, fun o ho => ?_⟩
            rw [List.take_add_one, hl] at ho
            rcases List.mem_append.mp ho with ho | ho
            · exact hk o ho
            · have : o = l := by simpa using ho
              subst this; exact h2
      rintro σ' G1 e1 ⟨x, rfl, hk⟩
      rw [List.length_map, List.take_length] at hk
      have ho := trimR_ok hv hk
      have hKn := keptL_nodup p outs
      have hKm := fun l => mem_keptL (outs := outs) hv hk (l := l)
      have hKl := keptL_len p outs
      obtain ⟨a, g, rfl, hP, ws, hL, hR⟩ := hP0.mono e1
      have hwl := hR.1
      have i0 : atI [V.int p.many, .ref g] 0 = some (.int p.many) := rfl
      have i1 : atI [V.int p.many, .ref g] 1 = some (.ref g) := rfl
      refine go_asgP (ep_call (ea_cons (ev_var rfl) (ea_cons (ev_var rfl) ea_nil)) (sg_kept_lines (hP0.mono e1) hv (ex_l e1 hB) hk hn)) fun vk G2 e2 hkk => ?_
      obtain ⟨pk, k, rfl, hkl, hki, _, hkg⟩ := hkk
      have hK2 : SqL K G2 pk (k.map V.bl) := sq_of hkg
      refine go_asgL (xs := (keptL p outs).map V.int) ?_ fun ps hps => ?_
      · rw [← keptL_marks hki, List.map_map]
        exact el_lcRF (n := p.lines) (fun i => k.getD i.toNat false) V.int (ea_cons (ev_var rfl) ea_nil) (by omega) (fun _ => rfl) (fun l l0 l1 => et_B (ev_op (ev_var rfl) (ev_var rfl) (rv_ixL hK2 (at_map V.bl k false l0 (by omega))))) fun l l0 l1 _ => ev_var rfl
      have e3 : Ex G1 (upd G2 ps (.lst ((keptL p outs).map V.int))) := e2.trans (Ex.new hps)
      have hS3 : (upd G2 ps (.lst ((keptL p outs).map V.int))) ps = some (.lst ((keptL p outs).map V.int)) := upd_same
      have hps0 := (e1.trans e2).none hps
      generalize upd G2 ps (.lst ((keptL p outs).map V.int)) = G3 at *
      refine go_asgP ep_dnew fun vd G4 e4 hd4 => ?_
      obtain ⟨pd, rfl, hpd, rfl⟩ := hd4
      refine go_forE G3 (ea_cons (ev_var rfl) ea_nil) e4 (sq_of hS3) (fun i σ' G' => ∃ x y kvs, σ' = [some (.ref a), some (.ref b), some (.int p.lines), x, some (.ref pk), some (.ref ps), some (.ref pd), y, none, none, none] ∧ G' pd = some (.dK kvs) ∧ kvs.length ≤ i ∧ ∀ (j : Nat) l, j < i → (keptL p outs)[j]? = some l → valV kvs (.inl l) = some (.int (j : Int))) ⟨_, _, [], rfl, upd_same, Nat.le_refl _, fun j l hj => by omega⟩ ?_ ?_
      · rintro i x σ' G' hx e5 ⟨x5, y5, kvs, rfl, hd5, hkl5, hkv5⟩
        rw [List.getElem?_map] at hx
        cases hl : (keptL p outs)[i]? with
        | none => rw [hl] at hx; cases hx
        | some l =>
          rw [hl] at hx
          cases hx
          have hil := (List.getElem?_eq_some_iff.mp hl).1
          refine go_dput (k := .inl l) (v := .int (i : Int)) (ev_var rfl) (ev_var rfl) (ev_var rfl) hd5 (by omega) ?_
          refine go_kb (Ex.mut e5 hpd) ⟨_, _, putK kvs (.inl l) (.int (i : Int)), rfl, upd_same, by have := putK_len kvs (.inl l) (.int (i : Int)); omega, fun j l' hj hl' => ?_⟩
          rw [valV_put]
          by_cases c : j = i
          · subst c
            rw [hl] at hl'
            cases hl'
            rw [if_pos rfl]
          · have hne : ¬ (Sum.inl l' : Key) = .inl l := fun h => by
              have h2 : l' = l := Sum.inl.inj h
              subst h2
              have a1 := idxOf_at hKn hl
              have a2 := idxOf_at hKn hl'
              omega
            rw [if_neg hne]
            exact hkv5 j l' (by omega) hl'
      rintro σ' G5 e5 ⟨x5, y5, kvs, rfl, hd5, hkl5, hkv5⟩
      rw [List.length_map] at hkv5
      have hS5 : SqL K G5 ps ((keptL p outs).map V.int) := ex_l e5 (sq_of hS3)
      have e15 : Ex G1 G5 := e3.trans e5
      refine go_asgL (el_lst ea_nil (Nat.zero_le _)) fun pg hpg => ?_
      have npg : pg ≠ ps := fun h => by rw [h, e5 _ _ hS3] at hpg; cases hpg
      refine go_forL G5 (ev_var rfl) (Ex.new hpg) hS5 (fun i σ' G' => ∃ x y gw, σ' = [some (.ref a), some (.ref b), some (.int p.lines), x, some (.ref pk), some (.ref ps), some (.ref pd), y5, some (.ref pg), y, none] ∧ G' pg = some (.lst gw) ∧ Rows (GateAt K G') gw ((((keptL p outs).take i).filter fun l => decide (l ≥ p.many)).map fun l => trimG (keptL p outs) (gateN p l))) ⟨_, _, [], rfl, upd_same, by rw [List.take_zero]; exact rows_nil⟩ ?_ ?_
      · rintro i x σ' G' hx e6 ⟨x6, y6, gw, rfl, hg6, hR6⟩
        rw [List.getElem?_map] at hx
        cases hl : (keptL p outs)[i]? with
        | none => rw [hl] at hx; cases hx
        | some l =>
          rw [hl] at hx
          cases hx
          have hlk := (hKm l).mp (List.mem_of_getElem? hl)
          have hlr := hlk.range hv hk
          have htk : (((keptL p outs).take (i + 1)).filter fun l => decide (l ≥ p.many)) = ((keptL p outs).take i).filter (fun l => decide (l ≥ p.many)) ++ (if l ≥ p.many then [l] else []) := by
            rw [List.take_add_one, hl, List.filter_append]
            congr 1
            by_cases c : l ≥ p.many
            · rw [if_pos c]; simp [c]
            · rw [if_neg c]; simp [c]
          have hP6 := ex_t (e15.trans e6) hP
          refine go_cutN (go_ifs (b := decide (l ≥ p.many)) (et_test (ev_op (ev_var rfl) (ev_op (ev_var rfl) ev_c (rv_ixT hP6 i0)) rv_I0)) (fun hb => ?_) (fun hb => ?_))
          · have lm : l ≥ p.many := of_decide_eq_true hb
            rw [if_pos lm] at htk
            obtain ⟨hg, hgm⟩ := gateN_get (p := p) (l := l) lm hlr.2
            obtain ⟨wv, hwv, hGA⟩ := rows_get hR hg
            obtain ⟨ga, gs, rfl, hG, hS⟩ := hGA.mono (e15.trans e6)
            have hz := gate_short (hgate _ hgm)
            have hsk : ∀ s ∈ (gateN p l).srcs, s ∈ keptL p outs := fun s hs => (hKm s).mpr (.src hlk lm hlr.2 hs)
            have ht : ∀ gt, gt = gateN p l → (((keptL p outs).take (i + 1)).filter fun l => decide (l ≥ p.many)).map (fun l => trimG (keptL p outs) (gateN p l)) = (((keptL p outs).take i).filter (fun l => decide (l ≥ p.many))).map (fun l => trimG (keptL p outs) (gateN p l)) ++ [trimG (keptL p outs) gt] := fun gt h => by
              rw [htk, List.map_append, h]; rfl
            have ht := ht _ rfl
            generalize gateN p l = gt at *
            have j0 : atI [V.str gt.kind, .ref gs, .int gt.delay] 0 = some (.str gt.kind) := rfl
            have j1 : atI [V.str gt.kind, .ref gs, .int gt.delay] 1 = some (.ref gs) := rfl
            have j2 : atI [V.str gt.kind, .ref gs, .int gt.delay] 2 = some (.int gt.delay) := rfl
            have k2 : atI ws (l - p.many) = some (.ref ga) := by
              rw [show l - p.many = ((l - p.many).toNat : Int) by omega]; exact at_list hwv
            refine go_asg (v := .ref ga) (ev_op (ev_op (ev_var rfl) ev_c (rv_ixT hP6 i1)) (ev_op (ev_var rfl) (ev_op (ev_var rfl) ev_c (rv_ixT hP6 i0)) rv_I0) (rv_ixL (ex_l (e15.trans e6) hL) k2)) ?_
            have hd6 := e6 _ _ hd5
            refine go_appP (l := pg) (xs := gw) (ev_var rfl) hg6 (ep_gate (K := K) (z := gt.kind) (ss := gt.srcs.map (plIn (keptL p outs))) (d := gt.delay) (ev_op (ev_var rfl) ev_c (rv_ixT hG j0)) (eu_tupNL (K := K) ?_) (ev_op (ev_var rfl) ev_c (rv_ixT hG j2))) (by
              have := hR6.1
              rw [List.length_map] at this
              have h3 := List.length_filter_le (fun l => decide (l ≥ p.many)) ((keptL p outs).take i)
              rw [List.length_take] at h3
              omega) fun v7 G7 e7 hg7 => ?_
            · rw [List.map_map]
              exact el_lcTA gt.srcs V.int _ (ev_op (ev_var rfl) ev_c (rv_ixT hG j1)) hS (by omega) (fun _ => rfl) fun s hs => ev_dget (k := .inl s) (ev_var rfl) (ev_var rfl) hd6 (by
                have h1 := idxOf_get hKn (hsk s hs)
                exact hkv5 _ s (List.getElem?_eq_some_iff.mp h1).1 h1)
            · have hg7' := e7 _ _ hg6
              refine go_kb (Ex.mut (e6.trans e7) hpg) ⟨_, _, gw ++ [v7], rfl, upd_same, ?_⟩
              rw [ht]
              exact rows_snoc (gates_put hR6 e7 hg7') (hg7.put hg7')
          · have lm : ¬ l ≥ p.many := of_decide_eq_false hb
            rw [if_neg lm, List.append_nil] at htk
            exact go_kb e6 ⟨_, _, gw, rfl, hg6, by rw [htk]; exact hR6⟩
      · rintro σ' G6 e6 ⟨x6, y6, gw, rfl, hg6, hR6⟩
        rw [List.length_map, List.take_length] at hR6
        have hP6 := ex_t (e15.trans e6) hP
        refine go_retP (P := fun v G' => ∃ t pl, v = .ref t ∧ SqT K G' t [.ref pl, .ref ps] ∧ SqT K G' pl [.int p.many, .ref pg] ∧ G' pg = some (.lst gw) ∧ G' ps = some (.lst ((keptL p outs).map V.int)) ∧ Rows (GateAt K G') gw (trimP p outs).gates) ?_ fun v G7 H1 e7 e8 hv7 => ?_
        · refine ep_tup (eap_p (ep_U (eu_tup (ea_cons (ev_op (ev_var rfl) ev_c (rv_ixT hP6 i0)) (ea_cons (ev_var rfl) ea_nil)) (by show 2 ≤ 100000; decide))) fun v8 G8 e8 hv8 => ea_cons (ev_var rfl) ea_nil) (fun vs G' ⟨v8, hvs, _⟩ => by rw [hvs]; show 2 ≤ 100000; decide) ?_
          rintro vs G' t e8 ⟨v8, rfl, pl, rfl, hpl, rfl⟩ ht
          have e9 : Ex G6 (upd (upd G6 pl (.tup [.int p.many, .ref pg])) t (.tup [.ref pl, .ref ps])) := e8.trans (Ex.new ht)
          refine ⟨t, pl, rfl, st_of upd_same, ex_t (Ex.new ht) (st_of upd_same), e9 _ _ hg6, e9 _ _ (e6 _ _ (e5 _ _ hS3)), rows_imp hR6 fun _ _ r => r.mono e9⟩
        · obtain ⟨t, pl, rfl, ht, hpl, h1, h2, h3⟩ := hv7
          exact o.ok _ ho ((e1.trans (e15.trans e6)).trans (e7.trans e8)) ⟨t, pl, ps, pg, gw, rfl, ex_t e8 ht, ex_t e8 hpl, (e1.trans e15).none hpg, e8 _ _ h1, rows_imp h3 fun _ _ r => r.mono e8, hps0, e8 _ _ h2, npg⟩

end

section
variable {P : Program} {w : World} {K : PySem.W.Frag} {mg : Str → Option Value} {base : Heap} {A : Ads}
def sp_l_refused (K : PySem.W.Frag) (A : Ads) : Sp := fun vs H Q E => ∃ v p b outs, vs = [v, .ref b] ∧ PlanAt K H v p ∧ Valid p ∧ SqL K H b ((outs : List Int).map V.int) ∧ outs.length ≤ 4000 ∧ (∃ o ∈ outs, ¬ (0 ≤ o ∧ o < p.lines)) ∧ RetV (.bl true) H Q
theorem sv_refused {K : PySem.W.Frag} {A : Ads} {G : Hp} {v : V} {p : Plan} {b : Addr} {outs : List Int} (h : PlanAt K G v p) (hv : Valid p) (hb : SqL K G b (outs.map V.int)) (hn : outs.length ≤ 4000) (ho : ∃ o ∈ outs, ¬ (0 ≤ o ∧ o < p.lines)) : SpV (sp_l_refused K A) [v, .ref b] G (.bl true) := fun _ e _ q _ =>
  ⟨v, p, b, outs, rfl, h.mono e, hv, ex_l e hb, hn, ho, q⟩
theorem ok_l_refused {f : Addr} {fd : FuncData} (F : Fun K "_law_refused" "_law_refused" s_l_refused f fd) (T : Txt K w mg A) (c_trimmed : CalX P w K mg base 4 "trimmed" (sp_trimmed K A)) : FnOk P w K mg base (L2.CX P w) 5 f fd ["_law_plan", "_law_outs"] (sp_l_refused K A) := by
  refine F.okX sc_l_refused (fun vs H Q E h => ?_) (fun cdv A_ outer s H vs Q E hr h => ?_)
  · obtain ⟨v, p, b, outs, rfl, _⟩ := h; rfl
  · obtain ⟨v, p, b, outs, rfl, hP, hv, hB, hn, ⟨o, ho, hno⟩, q⟩ := h
    refine ⟨_, (pss_cons (ps_try_only rfl rfl ⟨rfl, by decide, .inl T.g_NoLine⟩ (takes_of rfl rfl rfl rfl) (fun W_ pn_ xq_ tk_ xe_ => (pss_cons (ps_expr (pe_cx c_trimmed hr (by decide) rfl tk_ (pa_cons (pv 0) (pa_cons (pv 1) pa_nil)))) pss_nil)) (fun a_ oe_ cls_ d_ pn_ hz_ hf_ => (pss_cons (ps_ret pe_bl) pss_nil))) (pss_cons (ps_ret pe_bl) pss_nil)), ?_⟩
    try dsimp only [cxOf, Cx.blk]
    refine Go.start (σ := [some v, some (.ref b)]) ?_
    walk_at "try"
    refine go_dropF (ef_call (vs := [v, .ref b]) (ea_cons (ev_var rfl) (ea_cons (ev_var rfl) ea_nil)) fun H1 e1 Q1 => ⟨v, p, b, outs, rfl, hP.mono e1, ex_l e1 hB, hn, out_err (x := .line) (trimR_line hv ho hno) fun H2 e2 => ?_⟩)
    refine wo_hit T.m_NoLine_NoLine (e1.trans e2) fun a ha => ?_
    exact go_ret ev_c fun H1 e1 => q H1 e1

end

section
variable {P : Program} {w : World} {K : PySem.W.Frag} {mg : Str → Option Value} {base : Heap} {A : Ads}
def sp_l_stays (K : PySem.W.Frag) (A : Ads) : Sp := fun vs H Q E => ∃ v p b outs, vs = [v, .ref b] ∧ PlanAt K H v p ∧ Valid p ∧ SqL K H b ((outs : List Int).map V.int) ∧ (∀ o ∈ outs, 0 ≤ o ∧ o < p.lines) ∧ outs.length ≤ 4000 ∧ RetL ((keptL p outs).map V.int) H Q
theorem sl_stays {K : PySem.W.Frag} {A : Ads} {G : Hp} {v : V} {p : Plan} {b : Addr} {outs : List Int} (h : PlanAt K G v p) (hv : Valid p) (hb : SqL K G b (outs.map V.int)) (ho : ∀ o ∈ outs, 0 ≤ o ∧ o < p.lines) (hn : outs.length ≤ 4000) :
    SpL (sp_l_stays K A) [v, .ref b] G ((keptL p outs).map V.int) := fun H e Q q _ => ⟨v, p, b, outs, rfl, h.mono e, hv, ex_l e hb, ho, hn, fun x H' h1 h2 h3 => q x H' h1 h2 h3⟩
theorem ok_l_stays {f : Addr} {fd : FuncData} (F : Fun K "_law_stays" "_law_stays" s_l_stays f fd) (T : Txt K w mg A)  : FnOk P w K mg base (L2.CX P w) 1 f fd ["_law_plan", "_law_outs"] (sp_l_stays K A) := by
  refine F.okX sc_l_stays (fun vs H Q E h => ?_) (fun cdv A_ outer s H vs Q E hr h => ?_)
  · obtain ⟨v, p, b, outs, rfl, _⟩ := h; rfl
  · obtain ⟨v, p, b, outs, rfl, ⟨a, g, rfl, hP, ws, hL, hR⟩, hv, hB, ho, hn, q⟩ := h
    refine ⟨_, (pss_cons (ps_set (i := 3) sc_l_stays.nd rfl (.inr rfl) (pe_lc (own := [("_law_line", 2)]) (g := gName 2) (tt := tYes) rfl sc_l_stays.nd (pi_range1 rfl T.n_range (pa_cons (pe_op op_add (pe_ix (ixT K) (pv 0) pe_int (fun _ _ => rfl)) (pe_callB (c_len K) (by rfl) T.n_len PySem.boot_len (pa_cons (pe_ix (ixT K) (pv 0) pe_int (fun _ _ => rfl)) pa_nil))) pa_nil)) (blkOk_by (own := [("_law_line", 2)]) (N := ["_law_plan", "_law_outs", "_law_line", "_law_stays_here", "_law_fresh", "_law_more", "_law_source"]) (sc := defScope s_l_stays) (by decide +kernel)) (fun _ _ _ _ _ => pg_name (i := 2) sc_l_stays.nd rfl (Or.inl rfl)) (fun _ _ _ _ _ => pts_nil) (fun _ _ _ _ _ => (pe_or (pe_cmpR op_lt (pv 2) (pe_ix (ixT K) (pv 0) pe_int (fun _ _ => rfl)) (nomark _)) (pe_one (pe_cmpR (o_in K) (pv 2) (pv 1) rfl)))))) (pss_cons (ps_setLc (i := 4) (own := [("_law_line", 2)]) (g := gName 2) rfl sc_l_stays.nd rfl rfl (sw_true rfl rfl rfl (by decide +kernel)) (pi_L K (pv 1)) (blkOk_by (own := [("_law_line", 2)]) (N := ["_law_plan", "_law_outs", "_law_line", "_law_stays_here", "_law_fresh", "_law_more", "_law_source"]) (sc := defScope s_l_stays) (by decide +kernel)) (fun _ _ _ _ _ => pg_name (i := 2) sc_l_stays.nd rfl (Or.inl rfl)) (fun _ _ _ _ _ => (pts_one (pt_cmpR op_ge (pv 2) (pe_ix (ixT K) (pv 0) pe_int (fun _ _ => rfl)) (nomark _)))) (fun _ _ _ _ _ => (pv 2))) (pss_cons (ps_while (passes_of rfl) (pt_cmpR op_gt (pe_callB (c_len K) (by rfl) T.n_len PySem.boot_len (pa_cons (pv 4) pa_nil)) pe_int (nomark _)) (pss_cons (ps_set (i := 5) sc_l_stays.nd rfl (.inl rfl) (pe_lst pa_nil)) (pss_cons (ps_for (passes_of rfl) rfl (pi_L K (pv 4)) (pg_name (i := 2) sc_l_stays.nd rfl (.inl rfl)) (pss_cons (ps_for (passes_of rfl) rfl (pi_T K (pe_ix (ixT K) (pe_ix (ixL K) (pe_ix (ixT K) (pv 0) pe_int (fun _ _ => rfl)) (pe_op op_sub (pv 2) (pe_ix (ixT K) (pv 0) pe_int (fun _ _ => rfl))) (fun _ _ => rfl)) pe_int (fun _ _ => rfl))) (pg_name (i := 6) sc_l_stays.nd rfl (.inl rfl)) (pss_cut (ps_if (pt_not (pt_val (pe_ix (ixL K) (pv 3) (pv 6) (fun _ _ => rfl)))) (pss_cons (ps_asg pe_bl (pg_sub (pv 3) (pv 6) set_list)) (pss_cons (ps_expr (pe_bm PySem.F.plainAttrs_list PySem.F.slot_list_append PySem.F.type_list_append mt_append (pv 5) (pa_cons (pv 6) pa_nil))) pss_nil)) pss_nil) pss_nil)) pss_nil)) (pss_cons (ps_set (i := 4) sc_l_stays.nd rfl (.inl rfl) (pv 5)) pss_nil)))) (pss_cons (ps_ret (pe_lc (own := [("_law_line", 2)]) (g := gName 2) rfl sc_l_stays.nd (pi_range1 rfl T.n_range (pa_cons (pe_callB (c_len K) (by rfl) T.n_len PySem.boot_len (pa_cons (pv 3) pa_nil)) pa_nil)) (blkOk_by (own := [("_law_line", 2)]) (N := ["_law_plan", "_law_outs", "_law_line", "_law_stays_here", "_law_fresh", "_law_more", "_law_source"]) (sc := defScope s_l_stays) (by decide +kernel)) (fun _ _ _ _ _ => pg_name (i := 2) sc_l_stays.nd rfl (Or.inl rfl)) (fun _ _ _ _ _ => (pts_one (pt_val (pe_ix (ixL K) (pv 3) (pv 2) (fun _ _ => rfl))))) (fun _ _ _ _ _ => (pv 2)))) pss_nil)))), ?_⟩
    try dsimp only [cxOf, Cx.blk]
    refine Go.start (σ := [some (.ref a), some (.ref b), none, none, none, none, none]) ?_
    obtain ⟨m0, m60, n200, hgate⟩ := id hv
    have hwl := hR.1
    have i0 : atI [V.int p.many, .ref g] 0 = some (.int p.many) := rfl
    have i1 : atI [V.int p.many, .ref g] 1 = some (.ref g) := rfl
    have hln : p.many + (ws.length : Int) = p.lines := by unfold Plan.lines; rw [hwl]
    have hl0 : 0 ≤ p.lines := by omega
    refine go_asgL (xs := (stay0 p outs).map V.bl) ?_ fun pk hpk => ?_
    · unfold stay0
      rw [List.map_map]
      refine el_lcR (n := p.lines) (fun k => .bl (decide (k < p.many) || decide (k ∈ outs))) (ea_cons (by rw [← hln]; exact ev_op (ev_op (ev_var rfl) ev_c (rv_ixT hP i0)) (ev_len (ev_op (ev_var rfl) ev_c (rv_ixT hP i1)) hL) rv_I0) ea_nil) (by omega) (fun _ => rfl) fun k k0 k1 => ev_orV (ev_op (ev_var rfl) (ev_op (ev_var rfl) ev_c (rv_ixT hP i0)) rv_I0) fun _ => ?_
      rw [← inV_ints]
      exact ev_op (ev_var rfl) (ev_var rfl) (rv_isL hB rfl (flat_ints _))
    have hP1 := ex_t (Ex.new (o := .lst ((stay0 p outs).map V.bl)) hpk) hP
    have hB1 := ex_l (Ex.new (o := .lst ((stay0 p outs).map V.bl)) hpk) hB
    refine go_asgL (xs := (fresh0 p outs).map V.int) (el_lcF outs V.int (fun l => decide (l ≥ p.many)) V.int (ev_var rfl) hB1 (by omega) (fun _ => rfl) (fun x hx => et_test (ev_op (ev_var rfl) (ev_op (ev_var rfl) ev_c (rv_ixT hP1 i0)) rv_I0)) fun x hx _ => ev_var rfl) fun pf hpf => ?_
    obtain ⟨npf, hpf0⟩ := none_upd.mp hpf
    have hfl : (fresh0 p outs).length ≤ 4000 := by have := List.length_filter_le (fun l => decide (l ≥ p.many)) outs; unfold fresh0; omega
    refine go_while (fun m σ' G' => ∃ k w x y z pf, σ' = [some (.ref a), some (.ref b), x, some (.ref pk), some (.ref pf), y, z] ∧ Ex H G' ∧ G' pk = some (.lst ((k : List Bool).map V.bl)) ∧ G' pf = some (.lst ((w : List Int).map V.int)) ∧ StayInv p outs k w ∧ 2 * cntF k + (if w = [] then 0 else 1) = m ∧ w.length ≤ 4000 ∧ H pf = none ∧ pf ≠ pk) (2 * cntF (stay0 p outs) + (if fresh0 p outs = [] then 0 else 1)) ⟨stay0 p outs, fresh0 p outs, none, none, none, pf, rfl, Ex.mut (Ex.new hpk) hpf0, by rw [upd_ne (Ne.symm npf), upd_same], upd_same, stayInv0 hv ho, rfl, hfl, hpf0, npf⟩ ?_
    rintro m σ' G' ⟨k, w, x, y, z, pf, rfl, e, hk, hw, hI, hm, hwn, hpf0, npf⟩
    have hW := sq_of (K := K) hw
    have hkl := hI.len
    refine ⟨decide (((w.map V.int).length : Int) > 0), et_test (ev_op (ev_len (ev_var rfl) hW) ev_c rv_I0), fun hb => ?_, fun hb => ?_⟩
    · have hne : w ≠ [] := by rintro rfl; cases hb
      rw [if_neg hne] at hm
      refine go_asgL (el_lst ea_nil (Nat.zero_le _)) fun pm hpm => ?_
      have hpm0 := e.none hpm
      have nkm : pk ≠ pm := fun h => by rw [← h, hk] at hpm; cases hpm
      have e2 : Ex G' (upd G' pm (.lst [])) := Ex.new hpm
      have hk2 : (upd G' pm (.lst [])) pk = some (.lst (k.map V.bl)) := by rw [upd_ne nkm]; exact hk
      have hm2 : (upd G' pm (.lst [])) pm = some (.lst []) := upd_same
      have nfm : pf ≠ pm := fun h => by rw [← h, hw] at hpm; cases hpm
      have eB : Ex (upd H pf (.lst (w.map V.int))) (upd G' pm (.lst [])) := (e.know hw hpf0).trans e2
      have hwB : SqL K (upd H pf (.lst (w.map V.int))) pf (w.map V.int) := sq_of upd_same
      have eHB : Ex H (upd H pf (.lst (w.map V.int))) := Ex.new hpf0
      have hkB : (upd H pf (.lst (w.map V.int))) pk = none := by rw [upd_ne (Ne.symm npf)]; exact hpk
      have hmB : (upd H pf (.lst (w.map V.int))) pm = none := by rw [upd_ne (Ne.symm nfm)]; exact hpm0
      generalize upd H pf (.lst (w.map V.int)) = B at *
      have hcl : cntF k ≤ 260 := by have := cntF_le k; unfold Plan.lines at *; omega
      have hss : ∀ y ∈ w, ∀ s ∈ (gateN p y).srcs, 0 ≤ s ∧ s.toNat < k.length := fun y hy s hs => by
        obtain ⟨y0, y1, _⟩ := hI.wt y hy
        obtain ⟨_, hgm⟩ := gateN_get y0 y1
        obtain ⟨_, hsr, _⟩ := gate_ok (hgate _ hgm)
        have := hsr s hs
        exact ⟨this.1, by omega⟩
      refine go_forL B (ev_var rfl) eB hwB (fun i σ' G' => ∃ x z, σ' = [some (.ref a), some (.ref b), x, some (.ref pk), some (.ref pf), some (.ref pm), z] ∧ G' pk = some (.lst ((markAll (k, []) (srcsAll p (w.take i))).1.map V.bl)) ∧ G' pm = some (.lst ((markAll (k, []) (srcsAll p (w.take i))).2.map V.int))) ⟨_, _, rfl, hk2, hm2⟩ ?_ ?_
      · rintro i wv σ2 G3 hx e3 ⟨x3, z3, rfl, hk3, hm3⟩
        rw [List.getElem?_map] at hx
        cases hl : w[i]? with
        | none => rw [hl] at hx; cases hx
        | some l =>
          rw [hl] at hx
          cases hx
          have hlw := List.mem_of_getElem? hl
          obtain ⟨l0, l1, _⟩ := hI.wt l hlw
          have hsl := hss l hlw
          have hsa : srcsAll p (w.take (i + 1)) = srcsAll p (w.take i) ++ (gateN p l).srcs := by
            unfold srcsAll
            rw [List.take_add_one, hl, List.flatMap_append]
            simp
          have hsi : ∀ s ∈ srcsAll p (w.take i), 0 ≤ s ∧ s.toNat < k.length := fun s hs => by
            obtain ⟨y, hy, hs2⟩ := List.mem_flatMap.mp hs
            exact hss y (List.mem_of_mem_take hy) s hs2
          obtain ⟨hg, hgm⟩ := gateN_get l0 l1
          obtain ⟨wv, hwv, hGA⟩ := rows_get hR hg
          obtain ⟨ga, gs, rfl, hG, hS⟩ := hGA
          have hz := gate_short (hgate _ hgm)
          generalize gateN p l = gt at *
          have j1 : atI [V.str gt.kind, .ref gs, .int gt.delay] 1 = some (.ref gs) := rfl
          have k2 : atI ws (l - p.many) = some (.ref ga) := by
            rw [show l - p.many = ((l - p.many).toNat : Int) by omega]; exact at_list hwv
          have eH3 := eHB.trans e3
          refine go_forT B (ev_op (ev_op (ev_op (ev_var rfl) ev_c (rv_ixT (ex_t eH3 hP) i1)) (ev_op (ev_var rfl) (ev_op (ev_var rfl) ev_c (rv_ixT (ex_t eH3 hP) i0)) rv_I0) (rv_ixL (ex_l eH3 hL) k2)) ev_c (rv_ixT (ex_t eH3 hG) j1)) e3 (ex_t eHB hS) (fun j σ' G' => ∃ z, σ' = [some (.ref a), some (.ref b), some (.int l), some (.ref pk), some (.ref pf), some (.ref pm), z] ∧ G' pk = some (.lst ((markAll (k, []) (srcsAll p (w.take i) ++ gt.srcs.take j)).1.map V.bl)) ∧ G' pm = some (.lst ((markAll (k, []) (srcsAll p (w.take i) ++ gt.srcs.take j)).2.map V.int))) ⟨_, rfl, by rw [List.take_zero, List.append_nil]; exact hk3, by rw [List.take_zero, List.append_nil]; exact hm3⟩ ?_ ?_
          · rintro j sv σ4 G4 hs e4 ⟨z4, rfl, hk4, hm4⟩
            rw [List.getElem?_map] at hs
            cases hsj : gt.srcs[j]? with
            | none => rw [hsj] at hs; cases hs
            | some sl =>
              rw [hsj] at hs
              cases hs
              obtain ⟨s0, s1⟩ := hsl sl (List.mem_of_getElem? hsj)
              have hst : srcsAll p (w.take i) ++ gt.srcs.take (j + 1) = (srcsAll p (w.take i) ++ gt.srcs.take j) ++ [sl] := by
                rw [List.take_add_one, hsj, List.append_assoc]; rfl
              have hmo := markAll_out (srcsAll p (w.take i) ++ gt.srcs.take j) (k, []) (fun s hs => by
                rcases List.mem_append.mp hs with hs | hs
                · exact hsi s hs
                · exact hsl s (List.mem_of_mem_take hs))
              have hlen := hmo.len
              have hcnt := hmo.cnt
              have hstep := markAll_snoc (k, []) (srcsAll p (w.take i) ++ gt.srcs.take j) sl
              rw [← hst] at hstep
              generalize markAll (k, []) (srcsAll p (w.take i) ++ gt.srcs.take j) = r at *
              have hlen : r.1.length = k.length := hlen
              have hcnt : r.2.length + cntF r.1 = 0 + cntF k := hcnt
              have hK4 : SqL K G4 pk (r.1.map V.bl) := sq_of hk4
              have hx : atI (r.1.map V.bl) sl = some (.bl (r.1.getD sl.toNat false)) := at_map V.bl r.1 false s0 (by omega)
              refine go_cutN (go_ifs (b := !(r.1.getD sl.toNat false)) (et_not (et_B (ev_op (ev_var rfl) (ev_var rfl) (rv_ixL hK4 hx)))) (fun hd => ?_) (fun hd => ?_))
              · have hd2 : r.1.getD sl.toNat false = false := by simpa using hd
                unfold markStep at hstep
                rw [if_pos hd2] at hstep
                refine go_setL (j := sl.toNat) (v := .bl true) ev_c (ev_var rfl) hk4 (ev_is (ev_var rfl) (by rw [Int.toNat_of_nonneg s0])) (by rw [List.length_map]; omega) ?_
                refine go_app (l := pm) (xs := r.2.map V.int) (v := .int sl) (ev_var rfl) (by rw [upd_ne (Ne.symm nkm)]; exact hm4) (ev_var rfl) (by rw [List.length_map]; omega) ?_
                refine go_kb (Ex.mut (Ex.mut e4 hkB) hmB) ⟨_, rfl, ?_, ?_⟩
                · rw [upd_ne nkm, upd_same, hstep, List.map_set]
                · rw [upd_same, hstep, List.map_append]; rfl
              · have hd2 : ¬ r.1.getD sl.toNat false = false := by
                  intro h; rw [h] at hd; cases hd
                unfold markStep at hstep
                rw [if_neg hd2] at hstep
                exact go_kb e4 ⟨_, rfl, by rw [hstep]; exact hk4, by rw [hstep]; exact hm4⟩
          · rintro σ4 G4 e4 ⟨z4, rfl, hk4, hm4⟩
            rw [List.length_map, List.take_length, ← hsa] at hk4 hm4
            exact go_kb e4 ⟨_, _, rfl, hk4, hm4⟩
      · rintro σ2 G3 e3 ⟨x3, z3, rfl, hk3, hm3⟩
        rw [List.length_map, List.take_length] at hk3 hm3
        obtain ⟨hI2, hc2⟩ := hI.turn hv
        generalize markAll (k, []) (srcsAll p w) = r at *
        refine go_asg (v := .ref pm) (ev_var rfl) ?_
        refine go_kn ⟨2 * cntF r.1 + (if r.2 = [] then 0 else 1), ?_, r.1, r.2, x3, some (.ref pm), z3, pm, rfl, eHB.trans e3, hk3, hm3, hI2, rfl, by omega, hpm0, Ne.symm nkm⟩
        by_cases c : r.2 = []
        · rw [if_pos c]; omega
        · rw [if_neg c]
          have : r.2.length ≠ 0 := fun h => c (List.length_eq_zero_iff.mp h)
          omega
    · have hne : w = [] := by
        cases w with
        | nil => rfl
        | cons x r => rw [List.length_map, List.length_cons] at hb; have := of_decide_eq_false hb; omega
      subst hne
      have hK : SqL K G' pk (k.map V.bl) := sq_of hk
      have hcl : ((k.map V.bl).length : Int) = p.lines := by rw [List.length_map]; exact hkl
      refine go_retL (xs := (keptL p outs).map V.int) ?_ fun x H1 hx e1 h1 => q x H1 (e.none hx) (e.trans e1) h1
      rw [← keptL_marks (hI.done hv ho), List.map_map]
      exact el_lcRF (n := p.lines) (fun i => k.getD i.toNat false) V.int (ea_cons (by rw [← hcl]; exact ev_len (ev_var rfl) hK) ea_nil) (by omega) (fun _ => rfl) (fun l l0 l1 => et_B (ev_op (ev_var rfl) (ev_var rfl) (rv_ixL hK (at_map V.bl k false l0 (by omega))))) fun l l0 l1 _ => ev_var rfl

end

section
variable {P : Program} {w : World} {K : PySem.W.Frag} {mg : Str → Option Value} {base : Heap} {A : Ads}
def sp_l_whole (K : PySem.W.Frag) (A : Ads) : Sp := fun vs H Q E => ∃ i, vs = [.int i] ∧ RetV (.bl true) H Q
theorem sv_whole {K : PySem.W.Frag} {A : Ads} {G : Hp} {i : Int} : SpV (sp_l_whole K A) [.int i] G (.bl true) := fun _ e _ q _ => ⟨i, rfl, q⟩
theorem ok_l_whole {f : Addr} {fd : FuncData} (F : Fun K "_law_whole" "_law_whole" s_l_whole f fd) (T : Txt K w mg A)  : FnOk P w K mg base (L2.CX P w) 1 f fd ["_law_found"] (sp_l_whole K A) := by
  refine F.okX sc_l_whole (fun vs H Q E h => ?_) (fun cdv A_ outer s H vs Q E hr h => ?_)
  · obtain ⟨i, rfl, _⟩ := h; rfl
  · obtain ⟨i, rfl, q⟩ := h
    refine ⟨_, (pss_cons (ps_ret (pe_and (pe_callB (c_isi K) (by rfl) T.n_isinstance (by decide +kernel) (pa_cons (pv 0) (pa_cons (pe_bltn (v := .ty "int") rfl T.n_int (by decide +kernel) rfl) pa_nil))) (pe_one (pe_not (pe_callB (c_isi K) (by rfl) T.n_isinstance (by decide +kernel) (pa_cons (pv 0) (pa_cons (pe_bltn (v := .ty "bool") rfl T.n_bool (by decide +kernel) rfl) pa_nil))))))) pss_nil), ?_⟩
    try dsimp only [cxOf, Cx.blk]
    refine Go.start (σ := [some (.int i)]) ?_
    refine go_ret (v := .bl (true && !false)) (by walk_at "ev") fun H1 e1 => q H1 e1

end
local macro_rules | `(tactic| walk_at "sv") => `(tactic| exact sv_whole)

section
variable {P : Program} {w : World} {K : PySem.W.Frag} {mg : Str → Option Value} {base : Heap} {A : Ads}
def sp_l_numbers (K : PySem.W.Frag) (A : Ads) : Sp := fun vs H Q E => ∃ a b ns, vs = [.ref a, .ref b] ∧ SqL K H a ((ns : List Int).map V.int) ∧ SqL K H b (ns.map V.int) ∧ ns.length ≤ 40000 ∧ RetV (.bl true) H Q
theorem sv_numbers {K : PySem.W.Frag} {A : Ads} {G : Hp} {a b : Addr} {ns : List Int} (h : SqL K G a (ns.map V.int)) (h2 : SqL K G b (ns.map V.int)) (hn : ns.length ≤ 40000) : SpV (sp_l_numbers K A) [.ref a, .ref b] G (.bl true) := fun _ e _ q _ =>
  ⟨a, b, ns, rfl, ex_l e h, ex_l e h2, hn, q⟩
theorem ok_l_numbers {f : Addr} {fd : FuncData} (F : Fun K "_law_numbers" "_law_numbers" s_l_numbers f fd) (T : Txt K w mg A) (c_l_whole : CalX P w K mg base 1 "_law_whole" (sp_l_whole K A)) : FnOk P w K mg base (L2.CX P w) 2 f fd ["_law_found", "_law_due"] (sp_l_numbers K A) := by
  refine F.okX sc_l_numbers (fun vs H Q E h => ?_) (fun cdv A_ outer s H vs Q E hr h => ?_)
  · obtain ⟨a, b, ns, rfl, _⟩ := h; rfl
  · obtain ⟨a, b, ns, rfl, hA, hB, hn, q⟩ := h
    refine ⟨_, (pss_cons (ps_if (PW.pt (pw_or (pt_not (pt_val (pe_callB (c_isi K) (by rfl) T.n_isinstance (by decide +kernel) (pa_cons (pv 0) (pa_cons (pe_bltn (v := .ty "list") rfl T.n_list (by decide +kernel) rfl) pa_nil))))) (pw_or1 (pt_cmpR op_ne (pe_callB (c_len K) (by rfl) T.n_len PySem.boot_len (pa_cons (pv 0) pa_nil)) (pe_callB (c_len K) (by rfl) T.n_len PySem.boot_len (pa_cons (pv 1) pa_nil)) (nomark _))))) (pss_cons (ps_ret pe_bl) pss_nil) pss_nil) (pss_cons (ps_for (passes_of rfl) rfl (pi_range1 rfl T.n_range (pa_cons (pe_callB (c_len K) (by rfl) T.n_len PySem.boot_len (pa_cons (pv 1) pa_nil)) pa_nil)) (pg_name (i := 2) sc_l_numbers.nd rfl (.inl rfl)) (pss_cons (ps_if (PW.pt (pw_or (pt_not (pt_val (pe_cx c_l_whole hr (by decide) rfl (takes_of rfl rfl rfl rfl) (pa_cons (pe_ix (ixL K) (pv 0) (pv 2) (fun _ _ => rfl)) pa_nil)))) (pw_or1 (pt_cmpR op_ne (pe_ix (ixL K) (pv 0) (pv 2) (fun _ _ => rfl)) (pe_ix (ixL K) (pv 1) (pv 2) (fun _ _ => rfl)) (nomark _))))) (pss_cons (ps_ret pe_bl) pss_nil) pss_nil) pss_nil)) (pss_cons (ps_ret pe_bl) pss_nil))), ?_⟩
    try dsimp only [cxOf, Cx.blk]
    refine Go.start (σ := [some (.ref a), some (.ref b), none]) ?_
    refine go_when (b := !true || !decide (((ns.map V.int).length : Int) = ((ns.map V.int).length : Int))) (et_or (et_not (et_B (ev_isi (ev_var rfl) ev_c (.ty _) (ty_list hA) (kit_ty (by decide +kernel))))) fun _ => et_test (ev_op (ev_len (ev_var rfl) hA) (ev_len (ev_var rfl) hB) rv_neI)) (fun h => ?_) (fun _ => ?_)
    · rw [decide_eq_true rfl] at h; cases h
    refine go_forR1 H (n := ((ns.map V.int).length : Int)) (ea_cons (ev_len (ev_var rfl) hB) ea_nil) (by rw [List.length_map]; omega) (Ex.refl _) (fun k σ' G' => ∃ y, σ' = [some (.ref a), some (.ref b), y]) ⟨none, rfl⟩ ?_ ?_
    · rintro k σ' G' k0 k1 e ⟨y, rfl⟩
      have hA2 := ex_l e hA
      have hB2 := ex_l e hB
      have hx : atI (ns.map V.int) k = some (.int (ns.getD k.toNat 0)) := at_map V.int ns 0 k0 (by rw [List.length_map] at k1; exact k1)
      refine go_when (b := !true || !decide (ns.getD k.toNat 0 = ns.getD k.toNat 0)) (et_or (et_not (et_B (ev_callS (ea_cons (ev_op (ev_var rfl) (ev_var rfl) (rv_ixL hA2 hx)) ea_nil) sv_whole))) fun _ => et_test (ev_op (ev_op (ev_var rfl) (ev_var rfl) (rv_ixL hA2 hx)) (ev_op (ev_var rfl) (ev_var rfl) (rv_ixL hB2 hx)) rv_neI)) (fun h => ?_) (fun _ => ?_)
      · rw [decide_eq_true rfl] at h; cases h
      exact go_kb e ⟨_, rfl⟩
    · rintro σ' G' e ⟨y, rfl⟩
      exact go_ret ev_c fun H1 e1 => q H1 (e.trans e1)

end

section
variable {P : Program} {w : World} {K : PySem.W.Frag} {mg : Str → Option Value} {base : Heap} {A : Ads}
def sp_l_same_plan (K : PySem.W.Frag) (A : Ads) : Sp := fun vs H Q E => ∃ v w p, vs = [v, w] ∧ PlanAt K H v p ∧ PlanAt K H w p ∧ (∀ g ∈ p.gates, PyData.strOk g.kind = true) ∧ p.gates.length ≤ 4000 ∧ (∀ g ∈ p.gates, g.srcs.length ≤ 4000) ∧ RetV (.bl true) H Q
theorem sv_same_plan {K : PySem.W.Frag} {A : Ads} {G : Hp} {v w : V} {p : Plan} (h : PlanAt K G v p) (h2 : PlanAt K G w p) (hs : ∀ g ∈ p.gates, PyData.strOk g.kind = true) (hn : p.gates.length ≤ 4000) (hn2 : ∀ g ∈ p.gates, g.srcs.length ≤ 4000) : SpV (sp_l_same_plan K A) [v, w] G (.bl true) := fun _ e _ q _ => ⟨v, w, p, rfl, h.mono e, h2.mono e, hs, hn, hn2, q⟩
theorem ok_l_same_plan {f : Addr} {fd : FuncData} (F : Fun K "_law_same_plan" "_law_same_plan" s_l_same_plan f fd) (T : Txt K w mg A) (c_l_whole : CalX P w K mg base 1 "_law_whole" (sp_l_whole K A)) : FnOk P w K mg base (L2.CX P w) 2 f fd ["_law_found", "_law_due"] (sp_l_same_plan K A) := by
  refine F.okX sc_l_same_plan (fun vs H Q E h => ?_) (fun cdv A_ outer s H vs Q E hr h => ?_)
  · obtain ⟨v, w, p, rfl, _⟩ := h; rfl
  · obtain ⟨v, w, p, rfl, ⟨a, g, rfl, hP, ws, hL, hR⟩, ⟨a', g', rfl, hP', ws', hL', hR'⟩, hstr, hn, hn2, q⟩ := h
    refine ⟨_, (pss_cons (ps_if (PW.pt (pw_or (pt_not (pt_val (pe_callB (c_isi K) (by rfl) T.n_isinstance (by decide +kernel) (pa_cons (pv 0) (pa_cons (pe_bltn (v := .ty "tuple") rfl T.n_tuple (by decide +kernel) rfl) pa_nil))))) (pw_or (pt_cmpR op_ne (pe_callB (c_len K) (by rfl) T.n_len PySem.boot_len (pa_cons (pv 0) pa_nil)) pe_int (nomark _)) (pw_or (pt_not (pt_val (pe_cx c_l_whole hr (by decide) rfl (takes_of rfl rfl rfl rfl) (pa_cons (pe_ix (ixT K) (pv 0) pe_int (fun _ _ => rfl)) pa_nil)))) (pw_or1 (pt_cmpR op_ne (pe_ix (ixT K) (pv 0) pe_int (fun _ _ => rfl)) (pe_ix (ixT K) (pv 1) pe_int (fun _ _ => rfl)) (nomark _))))))) (pss_cons (ps_ret pe_bl) pss_nil) pss_nil) (pss_cons (ps_if (PW.pt (pw_or (pt_not (pt_val (pe_callB (c_isi K) (by rfl) T.n_isinstance (by decide +kernel) (pa_cons (pe_ix (ixT K) (pv 0) pe_int (fun _ _ => rfl)) (pa_cons (pe_bltn (v := .ty "list") rfl T.n_list (by decide +kernel) rfl) pa_nil))))) (pw_or1 (pt_cmpR op_ne (pe_callB (c_len K) (by rfl) T.n_len PySem.boot_len (pa_cons (pe_ix (ixT K) (pv 0) pe_int (fun _ _ => rfl)) pa_nil)) (pe_callB (c_len K) (by rfl) T.n_len PySem.boot_len (pa_cons (pe_ix (ixT K) (pv 1) pe_int (fun _ _ => rfl)) pa_nil)) (nomark _))))) (pss_cons (ps_ret pe_bl) pss_nil) pss_nil) (pss_cons (ps_for (passes_of rfl) rfl (pi_range1 rfl T.n_range (pa_cons (pe_callB (c_len K) (by rfl) T.n_len PySem.boot_len (pa_cons (pe_ix (ixT K) (pv 1) pe_int (fun _ _ => rfl)) pa_nil)) pa_nil)) (pg_name (i := 2) sc_l_same_plan.nd rfl (.inl rfl)) (pss_cons (ps_set (i := 3) sc_l_same_plan.nd rfl (.inl rfl) (pe_ix (ixL K) (pe_ix (ixT K) (pv 0) pe_int (fun _ _ => rfl)) (pv 2) (fun _ _ => rfl))) (pss_cons (ps_if (PW.pt (pw_or (pt_not (pt_val (pe_callB (c_isi K) (by rfl) T.n_isinstance (by decide +kernel) (pa_cons (pv 3) (pa_cons (pe_bltn (v := .ty "tuple") rfl T.n_tuple (by decide +kernel) rfl) pa_nil))))) (pw_or (pt_cmpR op_ne (pe_callB (c_len K) (by rfl) T.n_len PySem.boot_len (pa_cons (pv 3) pa_nil)) pe_int (nomark _)) (pw_or (pt_not (pt_val (pe_callB (c_isi K) (by rfl) T.n_isinstance (by decide +kernel) (pa_cons (pe_ix (ixT K) (pv 3) pe_int (fun _ _ => rfl)) (pa_cons (pe_bltn (v := .ty "tuple") rfl T.n_tuple (by decide +kernel) rfl) pa_nil))))) (pw_or1 (pt_cmpR (o_neD K hr.units) (pv 3) (pe_ix (ixL K) (pe_ix (ixT K) (pv 1) pe_int (fun _ _ => rfl)) (pv 2) (fun _ _ => rfl)) (nomark _))))))) (pss_cons (ps_ret pe_bl) pss_nil) pss_nil) (pss_cons (ps_if (PW.pt (pw_or (pt_not (pt_val (pe_callB (c_isi K) (by rfl) T.n_isinstance (by decide +kernel) (pa_cons (pe_ix (ixT K) (pv 3) pe_int (fun _ _ => rfl)) (pa_cons (pe_bltn (v := .ty "str") rfl T.n_str (by decide +kernel) rfl) pa_nil))))) (pw_or (pt_not (pt_val (pe_cx c_l_whole hr (by decide) rfl (takes_of rfl rfl rfl rfl) (pa_cons (pe_ix (ixT K) (pv 3) pe_int (fun _ _ => rfl)) pa_nil)))) (pw_or1 (pt_not (pt_val (pe_callB (c_all K rfl) (by rfl) T.n_all (by decide +kernel) (pa_cons (pe_lc (own := [("_law_one", 4)]) (g := gName 4) (tt := tYes) rfl sc_l_same_plan.nd (pi_T K (pe_ix (ixT K) (pv 3) pe_int (fun _ _ => rfl))) (blkOk_by (own := [("_law_one", 4)]) (N := ["_law_found", "_law_due", "_law_k", "_law_gate", "_law_one"]) (sc := defScope s_l_same_plan) (by decide +kernel)) (fun _ _ _ _ _ => pg_name (i := 4) sc_l_same_plan.nd rfl (Or.inl rfl)) (fun _ _ _ _ _ => pts_nil) (fun _ _ _ _ _ => (pe_cx c_l_whole hr (by decide) rfl takes0 (pa_cons (pv 4) pa_nil)))) pa_nil)))))))) (pss_cons (ps_ret pe_bl) pss_nil) pss_nil) pss_nil)))) (pss_cons (ps_ret pe_bl) pss_nil)))), ?_⟩
    try dsimp only [cxOf, Cx.blk]
    refine Go.start (σ := [some (.ref a), some (.ref a'), none, none, none]) ?_
    have hwl := hR.1
    have hwl' := hR'.1
    have i0 : atI [V.int p.many, .ref g] 0 = some (.int p.many) := rfl
    have i1 : atI [V.int p.many, .ref g] 1 = some (.ref g) := rfl
    have i0' : atI [V.int p.many, .ref g'] 0 = some (.int p.many) := rfl
    have i1' : atI [V.int p.many, .ref g'] 1 = some (.ref g') := rfl
    have hle : ((ws.length : Nat) : Int) = (ws'.length : Int) := by rw [hwl, hwl']
    refine go_when (b := !true || (!decide ((([V.int p.many, .ref g] : List V).length : Int) = 2) || (!true || !decide (p.many = p.many)))) (et_or (et_not (et_B (ev_isi (ev_var rfl) ev_c (.ty _) (ty_tuple hP) (kit_ty (by decide +kernel))))) fun _ => et_or (et_test (ev_op (ev_lenT (ev_var rfl) hP) ev_c rv_neI)) fun _ => et_or (et_not (et_B (ev_callS (ea_cons (ev_op (ev_var rfl) ev_c (rv_ixT hP i0)) ea_nil) sv_whole))) fun _ => et_test (ev_op (ev_op (ev_var rfl) ev_c (rv_ixT hP i0)) (ev_op (ev_var rfl) ev_c (rv_ixT hP' i0')) rv_neI)) (fun h => ?_) (fun _ => ?_)
    · rw [decide_eq_true (show p.many = p.many from rfl)] at h; cases h
    refine go_when (b := !true || !decide ((ws.length : Int) = (ws'.length : Int))) (et_or (et_not (et_B (ev_isi (ev_op (ev_var rfl) ev_c (rv_ixT hP i1)) ev_c (.ty _) (ty_list hL) (kit_ty (by decide +kernel))))) fun _ => et_test (ev_op (ev_len (ev_op (ev_var rfl) ev_c (rv_ixT hP i1)) hL) (ev_len (ev_op (ev_var rfl) ev_c (rv_ixT hP' i1')) hL') rv_neI)) (fun h => ?_) (fun _ => ?_)
    · rw [decide_eq_true hle] at h; cases h
    refine go_forR1 H (n := (ws'.length : Int)) (ea_cons (ev_len (ev_op (ev_var rfl) ev_c (rv_ixT hP' i1')) hL') ea_nil) (by omega) (Ex.refl _) (fun k σ' G' => ∃ x y, σ' = [some (.ref a), some (.ref a'), x, y, none]) ⟨none, none, rfl⟩ ?_ ?_
    · rintro k σ' G' k0 k1 e ⟨x, y, rfl⟩
      obtain ⟨i, rfl⟩ : ∃ i : Nat, k = (i : Int) := ⟨k.toNat, by omega⟩
      have hi : i < p.gates.length := by omega
      have hg := List.getElem?_eq_getElem hi
      have hgm := List.getElem_mem hi
      have hs := hstr _ hgm
      have hz := hn2 _ hgm
      obtain ⟨w1, hw1, hG1⟩ := rows_get hR hg
      obtain ⟨w2, hw2, hG2⟩ := rows_get hR' hg
      generalize p.gates[i] = gt at *
      have hd1 := (hG1.mono e).dp
      have hd2 := (hG2.mono e).dp
      obtain ⟨ga, gs, rfl, hG, hS⟩ := hG1.mono e
      have j0 : atI [V.str gt.kind, .ref gs, .int gt.delay] 0 = some (.str gt.kind) := rfl
      have j1 : atI [V.str gt.kind, .ref gs, .int gt.delay] 1 = some (.ref gs) := rfl
      have j2 : atI [V.str gt.kind, .ref gs, .int gt.delay] 2 = some (.int gt.delay) := rfl
      refine go_asg (v := .ref ga) (ev_op (ev_op (ev_var rfl) ev_c (rv_ixT (ex_t e hP) i1)) (ev_var rfl) (rv_ixL (ex_l e hL) (at_list hw1))) ?_
      refine go_when (b := !true || (!decide ((([V.str gt.kind, .ref gs, .int gt.delay] : List V).length : Int) = 3) || (!true || false))) (et_or (et_not (et_B (ev_isi (ev_var rfl) ev_c (.ty _) (ty_tuple hG) (kit_ty (by decide +kernel))))) fun _ => et_or (et_test (ev_op (ev_lenT (ev_var rfl) hG) ev_c rv_neI)) fun _ => et_or (et_not (et_B (ev_isi (ev_op (ev_var rfl) ev_c (rv_ixT hG j1)) ev_c (.ty _) (ty_tuple hS) (kit_ty (by decide +kernel))))) fun _ => et_test (ev_op (ev_var rfl) (ev_op (ev_op (ev_var rfl) ev_c (rv_ixT (ex_t e hP') i1')) (ev_var rfl) (rv_ixL (ex_l e hL') (at_list hw2))) (rv_neD hd1 hd2 (gateD_shaped hs)))) (fun h => (by cases h)) (fun _ => ?_)
      refine go_when (b := !true || (!true || !(gt.srcs.map fun _ => true).all id)) (et_or (et_not (et_B (ev_isi (ev_op (ev_var rfl) ev_c (rv_ixT hG j0)) ev_c (.ty _) (.base (.str _)) (kit_ty (by decide +kernel))))) fun _ => et_or (et_not (et_B (ev_callS (ea_cons (ev_op (ev_var rfl) ev_c (rv_ixT hG j2)) ea_nil) sv_whole))) fun _ => et_not (et_B (ev_allN ?_))) (fun h => ?_) (fun _ => ?_)
      · rw [List.map_map]
        exact el_lcTA gt.srcs V.int _ (ev_op (ev_var rfl) ev_c (rv_ixT hG j1)) hS (by omega) (fun _ => rfl) fun s hs => ev_callS (ea_cons (ev_var rfl) ea_nil) sv_whole
      · have : (gt.srcs.map fun _ => true).all id = true := by
          rw [List.all_eq_true]
          intro b hb
          obtain ⟨_, _, rfl⟩ := List.mem_map.mp hb
          rfl
        rw [this] at h; cases h
      exact go_kb e ⟨_, _, rfl⟩
    · rintro σ' G' e ⟨x, y, rfl⟩
      exact go_ret ev_c fun H1 e1 => q H1 (e.trans e1)

end

section
variable {P : Program} {w : World} {K : PySem.W.Frag} {mg : Str → Option Value} {base : Heap} {A : Ads}
def sp_l_ringed (K : PySem.W.Frag) (A : Ads) : Sp := fun vs H Q E => ∃ v p, vs = [v] ∧ PlanAt K H v p ∧ Valid p ∧ RetV (.bl (ringedB p)) H Q
theorem sv_ringed {K : PySem.W.Frag} {A : Ads} {G : Hp} {v : V} {p : Plan} (h : PlanAt K G v p) (hv : Valid p) : SpV (sp_l_ringed K A) [v] G (.bl (ringedB p)) := fun _ e _ q _ => ⟨v, p, rfl, h.mono e, hv, q⟩
theorem ok_l_ringed {f : Addr} {fd : FuncData} (F : Fun K "_law_ringed" "_law_ringed" s_l_ringed f fd) (T : Txt K w mg A)  : FnOk P w K mg base (L2.CX P w) 1 f fd ["_law_plan"] (sp_l_ringed K A) := by
  refine F.okX sc_l_ringed (fun vs H Q E h => ?_) (fun cdv A_ outer s H vs Q E hr h => ?_)
  · obtain ⟨v, p, rfl, _⟩ := h; rfl
  · obtain ⟨v, p, rfl, ⟨a, g, rfl, hP, ws, hL, hR⟩, hv, q⟩ := h
    refine ⟨_, (pss_cons (ps_set (i := 2) sc_l_ringed.nd rfl (.inr rfl) (pe_lc (own := [("_law_line", 1)]) (g := gName 1) (tt := tYes) rfl sc_l_ringed.nd (pi_range1 rfl T.n_range (pa_cons (pe_op op_add (pe_ix (ixT K) (pv 0) pe_int (fun _ _ => rfl)) (pe_callB (c_len K) (by rfl) T.n_len PySem.boot_len (pa_cons (pe_ix (ixT K) (pv 0) pe_int (fun _ _ => rfl)) pa_nil))) pa_nil)) (blkOk_by (own := [("_law_line", 1)]) (N := ["_law_plan", "_law_line", "_law_done", "_law_turn", "_law_source"]) (sc := defScope s_l_ringed) (by decide +kernel)) (fun _ _ _ _ _ => pg_name (i := 1) sc_l_ringed.nd rfl (Or.inl rfl)) (fun _ _ _ _ _ => pts_nil) (fun _ _ _ _ _ => (pe_cmpR op_lt (pv 1) (pe_ix (ixT K) (pv 0) pe_int (fun _ _ => rfl)) (nomark _))))) (pss_cons (ps_for (passes_of rfl) rfl (pi_range1 rfl T.n_range (pa_cons (pe_callB (c_len K) (by rfl) T.n_len PySem.boot_len (pa_cons (pe_ix (ixT K) (pv 0) pe_int (fun _ _ => rfl)) pa_nil)) pa_nil)) (pg_name (i := 3) sc_l_ringed.nd rfl (.inl rfl)) (pss_cons (ps_for (passes_of rfl) rfl (pi_range2 rfl T.n_range (pa_cons (pe_ix (ixT K) (pv 0) pe_int (fun _ _ => rfl)) (pa_cons (pe_callB (c_len K) (by rfl) T.n_len PySem.boot_len (pa_cons (pv 2) pa_nil)) pa_nil))) (pg_name (i := 1) sc_l_ringed.nd rfl (.inl rfl)) (pss_cut (ps_if (PW.pt (pw_and (pt_not (pt_val (pe_ix (ixL K) (pv 2) (pv 1) (fun _ _ => rfl)))) (pw_and1 (pt_val (pe_callB (c_all K rfl) (by rfl) T.n_all (by decide +kernel) (pa_cons (pe_lc (own := [("_law_source", 4)]) (g := gName 4) (tt := tYes) rfl sc_l_ringed.nd (pi_T K (pe_ix (ixT K) (pe_ix (ixL K) (pe_ix (ixT K) (pv 0) pe_int (fun _ _ => rfl)) (pe_op op_sub (pv 1) (pe_ix (ixT K) (pv 0) pe_int (fun _ _ => rfl))) (fun _ _ => rfl)) pe_int (fun _ _ => rfl))) (blkOk_by (own := [("_law_source", 4)]) (N := ["_law_plan", "_law_line", "_law_done", "_law_turn", "_law_source"]) (sc := defScope s_l_ringed) (by decide +kernel)) (fun _ _ _ _ _ => pg_name (i := 4) sc_l_ringed.nd rfl (Or.inl rfl)) (fun _ _ _ _ _ => pts_nil) (fun _ _ _ _ _ => (pe_ix (ixL K) (pv 2) (pv 4) (fun _ _ => rfl)))) pa_nil)))))) (pss_cons (ps_asg pe_bl (pg_sub (pv 2) (pv 1) set_list)) pss_nil) pss_nil) pss_nil)) pss_nil)) (pss_cons (ps_ret (pe_not (pe_callB (c_all K rfl) (by rfl) T.n_all (by decide +kernel) (pa_cons (pv 2) pa_nil)))) pss_nil))), ?_⟩
    try dsimp only [cxOf, Cx.blk]
    refine Go.start (σ := [some (.ref a), none, none, none, none]) ?_
    obtain ⟨m0, m60, n200, hgate⟩ := id hv
    have hwl := hR.1
    have i0 : atI [V.int p.many, .ref g] 0 = some (.int p.many) := rfl
    have i1 : atI [V.int p.many, .ref g] 1 = some (.ref g) := rfl
    have hln : p.many + (ws.length : Int) = p.lines := by unfold Plan.lines; rw [hwl]
    refine go_asgL (xs := (done0 p).map V.bl) ?_ fun pd hpd => ?_
    · unfold done0
      rw [List.map_map]
      exact el_lcR (n := p.lines) (fun k => .bl (decide (k < p.many))) (ea_cons (by rw [← hln]; exact ev_op (ev_op (ev_var rfl) ev_c (rv_ixT hP i0)) (ev_len (ev_op (ev_var rfl) ev_c (rv_ixT hP i1)) hL) rv_I0) ea_nil) (by omega) (fun _ => rfl) fun k k0 k1 => ev_op (ev_var rfl) (ev_op (ev_var rfl) ev_c (rv_ixT hP i0)) rv_I0
    refine go_forR1 H (n := (ws.length : Int)) (ea_cons (ev_len (ev_op (ev_var rfl) ev_c (rv_ixT (ex_t (Ex.new hpd) hP) i1)) (ex_l (Ex.new hpd) hL)) ea_nil) (by omega) (Ex.new hpd) (fun t σ' G' => ∃ x y d, σ' = [some (.ref a), x, some (.ref pd), y, none] ∧ G' pd = some (.lst (d.map V.bl)) ∧ RingInv p t.toNat p.many d) ⟨_, _, _, rfl, upd_same, ringInv0 hv⟩ ?_ ?_
    · rintro t σ' G' t0 t1 e ⟨x, y, d, rfl, hd, hI⟩
      have hdl : ((d.map V.bl).length : Int) = p.lines := by rw [List.length_map]; exact hI.len
      refine go_forR2 H (lo := p.many) (n := ((d.map V.bl).length : Int)) (ea_cons (ev_op (ev_var rfl) ev_c (rv_ixT (ex_t e hP) i0)) (ea_cons (ev_len (ev_var rfl) (sq_of hd)) ea_nil)) (by omega) e (fun k σ' G' => ∃ x d, σ' = [some (.ref a), x, some (.ref pd), some (.int t), none] ∧ G' pd = some (.lst (d.map V.bl)) ∧ RingInv p t.toNat k d) ⟨_, _, rfl, hd, hI⟩ ?_ ?_
      · rintro k σ2 G2 k0 k1 e2 ⟨x2, d2, rfl, hd2, hI2⟩
        rw [hdl] at k1
        have hst := hI2.step hv k0 k1
        have hP2 := ex_t e2 hP
        have hL2 := ex_l e2 hL
        have hdl2 := hI2.len
        obtain ⟨hg, hgm⟩ := gateN_get (p := p) (l := k) k0 k1
        obtain ⟨w, hw, hGA⟩ := rows_get hR hg
        obtain ⟨ga, gs, rfl, hG, hS⟩ := hGA.mono e2
        have he := hgate _ hgm
        obtain ⟨_, hsr, _⟩ := gate_ok he
        have hz := gate_short he
        generalize gateN p k = gt at *
        have j1 : atI [V.str gt.kind, .ref gs, .int gt.delay] 1 = some (.ref gs) := rfl
        have k2 : atI ws (k - p.many) = some (.ref ga) := by
          rw [show k - p.many = ((k - p.many).toNat : Int) by omega]; exact at_list hw
        have hx : atI (d2.map V.bl) k = some (.bl (d2.getD k.toNat false)) := at_map V.bl d2 false (by omega) (by omega)
        refine go_cutN (go_ifs (b := !(d2.getD k.toNat false) && okSrcs d2 gt.srcs) (et_and (et_not (et_B (ev_op (ev_var rfl) (ev_var rfl) (rv_ixL (sq_of hd2) hx)))) fun _ => et_B (ev_allN ?_)) (fun h => ?_) (fun h => ?_))
        · rw [List.map_map]
          exact el_lcTA gt.srcs V.int _ (ev_op (ev_op (ev_op (ev_var rfl) ev_c (rv_ixT hP2 i1)) (ev_op (ev_var rfl) (ev_op (ev_var rfl) ev_c (rv_ixT hP2 i0)) rv_I0) (rv_ixL hL2 k2)) ev_c (rv_ixT hG j1)) hS (by omega) (fun _ => rfl) fun s hs => ev_op (ev_var rfl) (ev_var rfl) (rv_ixL (sq_of hd2) (at_map V.bl d2 false (hsr s hs).1 (by have := (hsr s hs).2; omega)))
        · rw [if_pos h] at hst
          refine go_setL (j := k.toNat) (v := .bl true) ev_c (ev_var rfl) hd2 (ev_is (ev_var rfl) (by rw [Int.toNat_of_nonneg (by omega)])) (by rw [List.length_map]; omega) ?_
          exact go_kb (Ex.mut e2 hpd) ⟨_, _, rfl, by rw [upd_same, List.map_set], hst⟩
        · rw [if_neg (by rw [h]; decide)] at hst
          exact go_kb e2 ⟨_, _, rfl, hd2, hst⟩
      · rintro σ2 G2 e2 ⟨x2, d2, rfl, hd2, hI2⟩
        rw [hdl, show p.many + ((p.lines - p.many).toNat : Int) = p.lines by omega] at hI2
        refine go_kb e2 ⟨_, _, _, rfl, hd2, ?_⟩
        rw [show (t + 1).toNat = t.toNat + 1 by omega]
        exact hI2.turn hv
    · rintro σ' G' e ⟨x, y, d, rfl, hd, hI⟩
      rw [Int.toNat_natCast, Int.toNat_natCast] at hI
      refine go_ret (v := .bl (!d.all id)) (ev_notV (ev_all (ev_var rfl) (sq_of hd))) fun H1 e1 => ?_
      rw [ringInv_end hv hI (by omega)]
      exact q H1 (e.trans e1)

end

section
variable {P : Program} {w : World} {K : PySem.W.Frag} {mg : Str → Option Value} {base : Heap} {A : Ads}
def sp_l_truths (K : PySem.W.Frag) (A : Ads) : Sp := fun vs H Q E => ∃ c n : Int, vs = [.int c, .int n] ∧ 0 ≤ n ∧ n ≤ 40000 ∧ ∀ q H', H q = none → Ex H H' → H' q = some (.lst ((truthsM c n).map V.bl)) → Q (.ref q) H'
theorem sl_truths {K : PySem.W.Frag} {A : Ads} {G : Hp} {c n : Int} (h : 0 ≤ n) (h2 : n ≤ 40000) : SpL (sp_l_truths K A) [.int c, .int n] G ((truthsM c n).map V.bl) := fun H e Q q _ =>
  ⟨c, n, rfl, h, h2, fun p H' h1 h2 h3 => q p H' h1 h2 h3⟩
theorem ok_l_truths {f : Addr} {fd : FuncData} (F : Fun K "_law_truths" "_law_truths" s_l_truths f fd) (T : Txt K w mg A) (c_l_mixed : CalX P w K mg base 1 "_law_mixed" (sp_l_mixed K A)) : FnOk P w K mg base (L2.CX P w) 2 f fd ["_law_cell", "_law_many_here"] (sp_l_truths K A) := by
  refine F.okX sc_l_truths (fun vs H Q E h => ?_) (fun cdv A_ outer s H vs Q E hr h => ?_)
  · obtain ⟨c, n, rfl, _⟩ := h; rfl
  · obtain ⟨c, n, rfl, h0, h1, q⟩ := h
    refine ⟨_, (pss_cons (ps_ret (pe_lc (own := [("_law_k", 2)]) (g := gName 2) (tt := tYes) rfl sc_l_truths.nd (pi_range1 rfl T.n_range (pa_cons (pv 1) pa_nil)) (blkOk_by (own := [("_law_k", 2)]) (N := ["_law_cell", "_law_many_here", "_law_k"]) (sc := defScope s_l_truths) (by decide +kernel)) (fun _ _ _ _ _ => pg_name (i := 2) sc_l_truths.nd rfl (Or.inl rfl)) (fun _ _ _ _ _ => pts_nil) (fun _ _ _ _ _ => (pe_cmpR op_eq (pe_cx c_l_mixed hr (by decide) rfl takes0 (pa_cons (pv 0) (pa_cons (pv 2) (pa_cons pe_int pa_nil)))) pe_int (nomark _))))) pss_nil), ?_⟩
    try dsimp only [cxOf, Cx.blk]
    refine Go.start (σ := [some (.int c), some (.int n), none]) ?_
    have el := el_lcR (G := H) (σ := [some (.int c), some (.int n), none]) (te := tOp rEq (tCallS (sp_l_mixed K A) (fun _ => fun _ _ _ => False) (tCons (tVar 0) (tCons (tVar 2) (tCons (tC (.int 2)) tNil)))) (tC (.int 1))) (ta := tCons (tVar 1) tNil) (j := 2) (vs := [2]) (n := n) (fun k => .bl (decide (mixed c k 2 = 1))) (ea_cons (ev_var rfl) ea_nil) ⟨h0, h1⟩ (fun _ => rfl) fun k k0 k1 => ev_op (by walk_at "ev") ev_c rv_eqI
    have e : ((List.range n.toNat).map fun i : Nat => V.bl (decide (mixed c (i : Int) 2 = 1))) = (truthsM c n).map V.bl := by
      unfold truthsM
      rw [List.map_map]; rfl
    rw [e] at el
    exact go_retL el fun p H1 hp e1 hl => q p H1 hp e1 hl

end

section
variable {P : Program} {w : World} {K : PySem.W.Frag} {mg : Str → Option Value} {base : Heap} {A : Ads}
def optV : Option Int → V
  | none => .non
  | some l => .int l
def sp_ready (K : PySem.W.Frag) (A : Ads) : Sp := fun vs H Q E => ∃ v p d bs, vs = [v, .ref d] ∧ PlanAt K H v p ∧ Valid p ∧ SqL K H d (bs.map V.bl) ∧ (bs.length : Int) = p.lines ∧ RetV (optV (readyM p bs)) H Q
theorem sv_ready {K : PySem.W.Frag} {A : Ads} {G : Hp} {v : V} {p : Plan} {d : Addr} {bs : List Bool} (h : PlanAt K G v p) (hv : Valid p) (hd : SqL K G d (bs.map V.bl)) (hl : (bs.length : Int) = p.lines) : SpV (sp_ready K A) [v, .ref d] G (optV (readyM p bs)) := fun _ e _ q _ =>
  ⟨v, p, d, bs, rfl, h.mono e, hv, ex_l e hd, hl, q⟩
theorem ok_ready {f : Addr} {fd : FuncData} (F : Fun K "ready" "ready" s_ready f fd) (T : Txt K w mg A)  : FnOk P w K mg base (L2.CX P w) 1 f fd ["plan", "done"] (sp_ready K A) := by
  refine F.okX sc_ready (fun vs H Q E h => ?_) (fun cdv A_ outer s H vs Q E hr h => ?_)
  · obtain ⟨v, p, d, bs, rfl, _⟩ := h; rfl
  · obtain ⟨v, p, d, bs, rfl, ⟨a, g, rfl, hP, vs, hL, hR⟩, hv, hd, hb, q⟩ := h
    refine ⟨_, (pss_cons (ps_for (passes_of rfl) rfl (pi_enum (by rfl) T.n_enumerate (pa_cons (pe_ix (ixT K) (pv 0) pe_int (fun _ _ => rfl)) pa_nil)) (pg_tup rfl (pgs_cons (pg_name (i := 2) sc_ready.nd rfl (.inl rfl)) (pgs_cons (pg_name (i := 3) sc_ready.nd rfl (.inl rfl)) pgs_nil))) (pss_cons (ps_if (PW.pt (pw_and (pt_not (pt_val (pe_ix (ixL K) (pv 1) (pe_op op_add (pe_ix (ixT K) (pv 0) pe_int (fun _ _ => rfl)) (pv 2)) (fun _ _ => rfl)))) (pw_and1 (pt_val (pe_callB (c_all K rfl) (by rfl) T.n_all (by decide +kernel) (pa_cons (pe_lc (own := [("source", 4)]) (g := gName 4) (tt := tYes) rfl sc_ready.nd (pi_T K (pe_ix (ixT K) (pv 3) pe_int (fun _ _ => rfl))) (blkOk_by (own := [("source", 4)]) (N := ["plan", "done", "place", "gate", "source"]) (sc := defScope s_ready) (by decide +kernel)) (fun _ _ _ _ _ => pg_name (i := 4) sc_ready.nd rfl (Or.inl rfl)) (fun _ _ _ _ _ => pts_nil) (fun _ _ _ _ _ => (pe_ix (ixL K) (pv 1) (pv 4) (fun _ _ => rfl)))) pa_nil)))))) (pss_cons (ps_ret (pe_op op_add (pe_ix (ixT K) (pv 0) pe_int (fun _ _ => rfl)) (pv 2))) pss_nil) pss_nil) pss_nil)) (pss_cons (ps_ret pe_non) pss_nil)), ?_⟩
    try dsimp only [cxOf, Cx.blk]
    refine Go.start (σ := [some (.ref a), some (.ref d), none, none, none]) ?_
    have i0 : atI [V.int p.many, .ref g] 0 = some (.int p.many) := rfl
    have i1 : atI [V.int p.many, .ref g] 1 = some (.ref g) := rfl
    have m0 := hv.m0
    refine go_forE H (by walk_at "ea") (Ex.refl _) hL (fun i σ' G' => ∃ y z, σ' = [some (.ref a), some (.ref d), y, z, none] ∧ readyM p bs = readyAt p.many bs (p.gates.drop i) i) ⟨none, none, rfl, by rw [List.drop_zero]; rfl⟩ ?_ ?_
    · rintro i x σ' G' hx e2 ⟨y, z, rfl, hk⟩
      obtain ⟨gt, hg, ga, gs, rfl, hG, hS⟩ := rows_get' hR hx
      have hi : i < p.gates.length := (List.getElem?_eq_some_iff.mp hg).1
      have hd2 := ex_l e2 hd
      have hP2 := ex_t e2 hP
      have hG2 := ex_t e2 hG
      have hS2 := ex_t e2 hS
      have j1 : atI [V.str gt.kind, .ref gs, .int gt.delay] 1 = some (.ref gs) := rfl
      obtain ⟨_, hsr, _⟩ := gate_ok (hv.gate gt (List.mem_of_getElem? hg))
      have b1 : p.many + (i : Int) < bs.length := by rw [hb]; unfold Plan.lines; omega
      have k1 : atI (bs.map V.bl) (p.many + (i : Int)) = some (.bl (bs.getD (p.many + (i : Int)).toNat false)) := at_map V.bl bs false (by omega) b1
      have hz : gt.srcs.length ≤ 40000 := by
        obtain ⟨⟨lo, hi', hw, hlo, hhi⟩, _⟩ := gate_ok (hv.gate gt (List.mem_of_getElem? hg))
        have := wants_le hw
        omega
      have ea : Ev (tCB (rAll K) (tCons (tLc (iTup K (tOp (rIxT K) (tVar 3) (tC (.int 1)))) (gName 4) tYes (tOp (rIxL K) (tVar 1) (tVar 4)) [4]) tNil)) [some (.ref a), some (.ref d), some (.int (i : Int)), some (.ref ga), none] G' (.bl (okSrcs bs gt.srcs)) := by
        unfold okSrcs
        refine ev_allN ?_
        rw [List.map_map]
        refine el_lcTA gt.srcs V.int _ (by walk_at "ev") hS2 hz (fun _ => rfl) fun s hs => ?_
        have hs' := hsr s hs
        exact ev_op (ev_var rfl) (ev_var rfl) (rv_ixL hd2 (at_map V.bl bs false hs'.1 (by rw [hb]; exact hs'.2)))
      have hdr : p.gates.drop i = gt :: p.gates.drop (i + 1) := by
        rw [List.drop_eq_getElem_cons hi]
        congr 1
        exact Option.some.inj ((List.getElem?_eq_getElem hi).symm.trans hg)
      rw [hdr, readyAt] at hk
      refine go_when (b := !(bs.getD (p.many + (i : Int)).toNat false) && okSrcs bs gt.srcs) (et_and (et_not (by walk_at "et")) fun _ => et_B ea) (fun h => ?_) (fun h => ?_)
      · have h2 : bs.getD (p.many + (i : Int)).toNat false = false ∧ okSrcs bs gt.srcs = true := by
          simpa only [Bool.and_eq_true, Bool.not_eq_true'] using h
        rw [if_pos h2] at hk
        refine go_ret (v := .int (p.many + (i : Int))) (by walk_at "ev") fun H1 e3 => ?_
        have := q H1 (e2.trans e3)
        rw [hk] at this
        exact this
      · have h2 : ¬ (bs.getD (p.many + (i : Int)).toNat false = false ∧ okSrcs bs gt.srcs = true) := by
          rintro ⟨h3, h4⟩
          rw [h3, h4] at h
          cases h
        rw [if_neg h2] at hk
        exact go_kb e2 ⟨_, _, rfl, by rw [hk]; rfl⟩
    · rintro σ' G' e2 ⟨y, z, rfl, hk⟩
      rw [hR.1, List.drop_length, readyAt] at hk
      refine go_ret (v := .non) (by walk_at "ev") fun H1 e3 => ?_
      have := q H1 (e2.trans e3)
      rw [hk] at this
      exact this

end
local macro_rules | `(tactic| walk_at "sv") => `(tactic| exact sv_ready (by walk_at "sd") (by walk_at "sd") (by walk_at "sd") (by walk_at "sd"))

section
variable {P : Program} {w : World} {K : PySem.W.Frag} {mg : Str → Option Value} {base : Heap} {A : Ads}
def RGone (K : PySem.W.Frag) : Hp → V → Hp → List Int × List Bool → Prop := fun H v H' fd => ∃ t pf pd, v = .ref t ∧ SqT K H' t [.ref pf, .ref pd] ∧ H pf = none ∧ H' pf = some (.lst (fd.1.map V.int)) ∧ H pd = none ∧ H' pd = some (.lst (fd.2.map V.bl)) ∧ pf ≠ pd
def sp_gone_through (K : PySem.W.Frag) (A : Ads) : Sp := fun vs H Q E => ∃ v p, vs = [v] ∧ PlanAt K H v p ∧ Out A H Q E (RGone K) (orErr (errPlan p) (goneM p))
theorem ok_gone_through {f : Addr} {fd : FuncData} (F : Fun K "gone_through" "gone_through" s_gone_through f fd) (T : Txt K w mg A) (c_checked : CalX P w K mg base 3 "checked" (sp_checked K A)) (c_ready : CalX P w K mg base 1 "ready" (sp_ready K A)) : FnOk P w K mg base (L2.CX P w) 4 f fd ["plan"] (sp_gone_through K A) := by
  refine F.okX sc_gone_through (fun vs H Q E h => ?_) (fun cdv A_ outer s H vs Q E hr h => ?_)
  · obtain ⟨v, p, rfl, _⟩ := h; rfl
  · obtain ⟨v, p, rfl, hP, o⟩ := h
    refine ⟨_, (pss_cons (ps_set (i := 1) sc_gone_through.nd rfl (.inl rfl) (pe_lst pa_nil)) (pss_cons (ps_setLc (i := 3) (own := [("line", 2)]) (g := gName 2) (tt := tYes) rfl sc_gone_through.nd rfl rfl (sw_true rfl rfl rfl (by decide +kernel)) (pi_range1 rfl T.n_range (pa_cons (pe_cx c_checked hr (by decide) rfl (takes_of rfl rfl rfl rfl) (pa_cons (pv 0) pa_nil)) pa_nil)) (blkOk_by (own := [("line", 2)]) (N := ["plan", "found", "line", "done"]) (sc := defScope s_gone_through) (by decide +kernel)) (fun _ _ _ _ _ => pg_name (i := 2) sc_gone_through.nd rfl (Or.inl rfl)) (fun _ _ _ _ _ => pts_nil) (fun _ _ _ _ _ => (pe_cmpR op_lt (pv 2) (pe_ix (ixT K) (pv 0) pe_int (fun _ _ => rfl)) (nomark _)))) (pss_cons (ps_set (i := 2) sc_gone_through.nd rfl (.inl rfl) (pe_cx c_ready hr (by decide) rfl (takes_of rfl rfl rfl rfl) (pa_cons (pv 0) (pa_cons (pv 3) pa_nil)))) (pss_cons (ps_while (passes_of rfl) (pt_cmpR op_notN1 (pv 2) pe_non (nomark _)) (pss_cons (ps_expr (pe_bm PySem.F.plainAttrs_list PySem.F.slot_list_append PySem.F.type_list_append mt_append (pv 1) (pa_cons (pv 2) pa_nil))) (pss_cons (ps_asg pe_bl (pg_sub (pv 3) (pv 2) set_list)) (pss_cons (ps_set (i := 2) sc_gone_through.nd rfl (.inl rfl) (pe_cx c_ready hr (by decide) rfl (takes_of rfl rfl rfl rfl) (pa_cons (pv 0) (pa_cons (pv 3) pa_nil)))) pss_nil)))) (pss_cons (ps_ret (pe_tup (pa_cons (pv 1) (pa_cons (pv 3) pa_nil)))) pss_nil))))), ?_⟩
    try dsimp only [cxOf, Cx.blk]
    refine Go.start (σ := [some v, none, none, none]) ?_
    refine go_asgL (el_lst (by walk_at "ea") (Nat.zero_le _)) fun pf hpf => ?_
    have eF : Ex H (upd H pf (.lst [])) := Ex.new hpf
    cases hv : errPlan p with
    | some e =>
      refine go_asgF (ef_lcR1 (eaf_hd (ef_call (by walk_at "ea") fun H1 e1 Q1 => ⟨v, p, rfl, hP.mono (eF.trans e1), out_err (x := e) (by unfold checkedM; rw [hv]; rfl) fun H2 e2 => ?_⟩)))
      exact o.err e (by rw [hv]; rfl) ((eF.trans e1).trans e2)
    | none =>
      have va := valid_iff.mp hv
      have m0 := va.m0
      have lns : 0 ≤ p.lines ∧ p.lines ≤ 40000 := by have := va.m60; have := va.n200; unfold Plan.lines; omega
      have hP1 := hP.mono eF
      obtain ⟨a, g, rfl, hPa, hGs⟩ := id hP1
      have i0 : atI [V.int p.many, .ref g] 0 = some (.int p.many) := rfl
      refine go_asgL (xs := (done0 p).map V.bl) (by
        have q := el_lcR (σ := [some (.ref a), some (.ref pf), none, none]) (G := upd H pf (.lst [])) (te := tOp (rI0 fun i j => .bl (decide (i < j))) (tVar 2) (tOp (rIxT K) (tVar 0) (tC (.int 0)))) (j := 2) (vs := [2]) (n := p.lines) (fun k => .bl (decide (k < p.many)))
          (ta := tCons (tCallS (sp_checked K A) (WE fun cls d _ H => E cls d H) (tCons (tVar 0) tNil)) tNil) (by walk_at "ea") lns (fun _ => rfl) (fun k k0 k1 => by walk_at "ev")
        have e : (List.range p.lines.toNat).map (fun i : Nat => V.bl (decide ((i : Int) < p.many))) = (done0 p).map V.bl := by unfold done0; rw [List.map_map]; rfl
        rw [← e]
        exact q) fun pd hpd => ?_
      obtain ⟨npd, hpd0⟩ := none_upd.mp hpd
      have eD : Ex H (upd (upd H pf (.lst [])) pd (.lst ((done0 p).map V.bl))) := Ex.mut eF hpd0
      have hP2 := hP.mono eD
      have va := va
      have hpf2 : (upd (upd H pf (.lst [])) pd (.lst ((done0 p).map V.bl))) pf = some (.lst []) := by rw [upd_ne (Ne.symm npd), upd_same]
      have hpd2 : SqL K (upd (upd H pf (.lst [])) pd (.lst ((done0 p).map V.bl))) pd ((done0 p).map V.bl) := sq_of upd_same
      have hdl := (goInv0 (p := p) m0).len
      refine go_asg (by walk_at "ev") ?_
      refine go_while (fun m σ' G' => ∃ f d n, σ' = [some (.ref a), some (.ref pf), some (optV (readyM p d)), some (.ref pd)] ∧ GoInv p f d ∧ cntF d = m ∧ cntF d < n ∧ goM p n f d = goneM p ∧ Ex H G' ∧ G' pf = some (.lst (f.map V.int)) ∧ G' pd = some (.lst (d.map V.bl))) (cntF (done0 p))
        ⟨[], done0 p, p.gates.length + 1, rfl, goInv0 m0, rfl, by rw [cntF_done0 m0]; omega, rfl, eD, hpf2, upd_same⟩ ?_
      rintro m σ' G' ⟨f, d, n, rfl, gi, rfl, hn, hgo, e3, hf, hd⟩
      refine ⟨_, by walk_at "et", fun h => ?_, fun h => ?_⟩
      · cases hr : readyM p d with
        | none => rw [hr] at h; cases h
        | some l =>
          obtain ⟨gi', hc, l0, l1⟩ := gi.step m0 hr
          have ll : ((l.toNat : Nat) : Int) = l := by omega
          have lf : (f.map V.int).length < 100000 := by rw [List.length_map]; have := gi.cnt; have := va.n200; omega
          have ndf : pd ≠ pf := npd
          refine go_app (l := pf) (xs := f.map V.int) (v := .int l) (by walk_at "ev") hf (by walk_at "ev") lf ?_
          have hd3 : (upd G' pf (.lst (f.map V.int ++ [V.int l]))) pd = some (.lst (d.map V.bl)) := by rw [upd_ne ndf]; exact hd
          refine go_setL (l := pd) (xs := d.map V.bl) (j := l.toNat) (v := .bl true) (by walk_at "ev") (by walk_at "ev") hd3 (ev_is (ev_var rfl) (by rw [ll]; rfl)) (by rw [List.length_map]; have := gi.len; omega) ?_
          have e4 : Ex H (upd (upd G' pf (.lst (f.map V.int ++ [V.int l]))) pd (.lst ((d.map V.bl).set l.toNat (.bl true)))) := Ex.mut (Ex.mut e3 hpf) hpd0
          have hP4 := hP.mono e4
          have hd4 : SqL K (upd (upd G' pf (.lst (f.map V.int ++ [V.int l]))) pd (.lst ((d.map V.bl).set l.toNat (.bl true)))) pd ((d.set l.toNat true).map V.bl) := sq_of (by rw [upd_same, List.map_set])
          have hdl' := gi'.len
          refine go_asg (v := optV (readyM p (d.set l.toNat true))) (by walk_at "ev") ?_
          refine go_kn ⟨cntF (d.set l.toNat true), by omega, f ++ [l], d.set l.toNat true, n - 1, rfl, gi', rfl, by omega, ?_, e4, ?_, ?_⟩
          · rw [← hgo]
            obtain ⟨n', rfl⟩ : ∃ n', n = n' + 1 := ⟨n - 1, by omega⟩
            show goM p n' _ _ = goM p (n' + 1) f d
            rw [goM, hr]
          · rw [upd_ne (Ne.symm ndf), upd_same, List.map_append]; rfl
          · rw [upd_same, List.map_set]
      · have hr : readyM p d = none := by
          cases hr : readyM p d with
          | none => rfl
          | some l => rw [hr] at h; cases h
        have hgo2 : goneM p = (f, d) := by
          rw [← hgo]
          obtain ⟨n', rfl⟩ : ∃ n', n = n' + 1 := ⟨n - 1, by omega⟩
          rw [goM, hr]
        refine go_retU (eu_tup (by walk_at "ea") (by show 2 ≤ 100000; decide)) fun t H1 ht e5 h5 => ?_
        refine o.ok (goneM p) (by rw [hv]; rfl) (e3.trans e5) ⟨t, pf, pd, rfl, st_of h5, hpf, ?_, hpd0, ?_, Ne.symm npd⟩
        · rw [hgo2]; exact e5 _ _ hf
        · rw [hgo2]; exact e5 _ _ hd

end

section
variable {P : Program} {w : World} {K : PySem.W.Frag} {mg : Str → Option Value} {base : Heap} {A : Ads}
def sp_order (K : PySem.W.Frag) (A : Ads) : Sp := fun vs H Q E => ∃ v p, vs = [v] ∧ PlanAt K H v p ∧ Out A H Q E (RL1 fun f : List Int => f.map V.int) (orderM p)
theorem sl_order {K : PySem.W.Frag} {A : Ads} {G : Hp} {v : V} {p : Plan} {f : List Int} (h : PlanAt K G v p) (ho : orderM p = .ok f) : SpL (sp_order K A) [v] G (f.map V.int) :=
  spl_out (r := orderM p) (A := A) (f := fun f : List Int => f.map V.int) (fun H1 e1 Q1 E1 o1 => ⟨v, p, rfl, h.mono e1, o1⟩) ho
theorem ok_order {f : Addr} {fd : FuncData} (F : Fun K "order" "order" s_order f fd) (T : Txt K w mg A) (c_gone_through : CalX P w K mg base 4 "gone_through" (sp_gone_through K A)) : FnOk P w K mg base (L2.CX P w) 5 f fd ["plan"] (sp_order K A) := by
  refine F.okX sc_order (fun vs H Q E h => ?_) (fun cdv A_ outer s H vs Q E hr h => ?_)
  · obtain ⟨v, p, rfl, _⟩ := h; rfl
  · obtain ⟨v, p, rfl, hP, o⟩ := h
    refine ⟨_, (pss_cons (ps_set (i := 1) sc_order.nd rfl (.inl rfl) (pe_ix (ixT K) (pe_cx c_gone_through hr (by decide) rfl (takes_of rfl rfl rfl rfl) (pa_cons (pv 0) pa_nil)) pe_int (fun _ _ => rfl))) (pss_cons (ps_if (pt_cmpR op_lt (pe_callB (c_len K) (by rfl) T.n_len PySem.boot_len (pa_cons (pv 1) pa_nil)) (pe_callB (c_len K) (by rfl) T.n_len PySem.boot_len (pa_cons (pe_ix (ixT K) (pv 0) pe_int (fun _ _ => rfl)) pa_nil)) (nomark _)) (pss_cons (ps_raise rfl (takes_of rfl rfl rfl rfl) (pmk_own PySem.F.excBase_ValueError T.x_Ringed T.g_Ringed T.k_Ringed (raises_own T.b_Ringed T.t_Ringed) rfl)) pss_nil) pss_nil) (pss_cons (ps_ret (pv 1)) pss_nil))), ?_⟩
    try dsimp only [cxOf, Cx.blk]
    refine Go.start (σ := [some v, none]) ?_
    cases hv : errPlan p with
    | some e =>
      refine go_asgF (ef_op1 (ef_call (by walk_at "ea") fun H1 e1 Q1 => ⟨v, p, rfl, hP.mono e1, out_err (x := e) (by rw [hv]; rfl) fun H2 e2 => ?_⟩))
      exact o.err e (by unfold orderM; rw [hv]) (e1.trans e2)
    | none =>
      refine go_asgP (P := fun x G' => ∃ pf, x = .ref pf ∧ H pf = none ∧ G' pf = some (.lst ((goneM p).1.map V.int))) (ep_op1 (ep_call (by walk_at "ea") (spg_out (r := orErr (errPlan p) (goneM p)) (R := RGone K) (A := A) (a := goneM p) (fun H1 e1 Q1 E1 o1 => ⟨v, p, rfl, hP.mono e1, o1⟩) (by rw [hv]; rfl))) fun v G1 e1 hv => ?_) (fun x G1 e1 hx => ?_)
      · obtain ⟨H0, e0, _, t, pf, pd, rfl, ht, hpf, hf, _⟩ := hv
        exact ⟨.int 0, .ref pf, ev_c, rv_ixT ht rfl, pf, rfl, e0.none hpf, hf⟩
      · obtain ⟨pf, rfl, hpf, hf⟩ := hx
        have hP1 := hP.mono e1
        obtain ⟨a, g, rfl, hPa, vs, hL, hR⟩ := hP1
        have i1 : atI [V.int p.many, .ref g] 1 = some (.ref g) := rfl
        have hf1 : SqL K G1 pf ((goneM p).1.map V.int) := sq_of hf
        have l1 : ((goneM p).1.map V.int).length = (goneM p).1.length := List.length_map _
        refine go_when (by walk_at "et") (fun h => ?_) (fun h => ?_)
        · have h2 : (goneM p).1.length < p.gates.length := by
            have := of_decide_eq_true h
            rw [l1, hR.1] at this; omega
          exact go_raise fun _ _ H1 e2 => o.err .ringed (by unfold orderM; rw [hv]; simp only [h2, if_true]) (e1.trans e2)
        · have h2 : ¬ (goneM p).1.length < p.gates.length := by
            have := of_decide_eq_false h
            rw [l1, hR.1] at this; omega
          exact go_ret (by walk_at "ev") fun H1 e2 => o.ok (goneM p).1 (by unfold orderM; rw [hv]; simp only [h2, if_false]) (e1.trans e2) ⟨pf, rfl, hpf, e2 _ _ hf⟩

end

section
variable {P : Program} {w : World} {K : PySem.W.Frag} {mg : Str → Option Value} {base : Heap} {A : Ads}
def sp_answer (K : PySem.W.Frag) (A : Ads) : Sp := fun vs H Q E => ∃ z a bs, vs = [.str z, .ref a] ∧ SqL K H a (bs.map V.bl) ∧ bs.length ≤ 40000 ∧ Out A H Q E (RV1 V.bl) (answerM z bs)
theorem least_two {z : Str} (h : least z = some 2) : z = "both" ∨ z = "either" ∨ z = "unlike" := by
  unfold least at h
  repeat' split at h
  all_goals first | (left; assumption) | (right; left; assumption) | (right; right; assumption) | (cases h)
theorem ok_answer {f : Addr} {fd : FuncData} (F : Fun K "answer" "answer" s_answer f fd) (T : Txt K w mg A) (c_wants : CalX P w K mg base 1 "wants" (sp_wants K A)) : FnOk P w K mg base (L2.CX P w) 2 f fd ["kind", "given"] (sp_answer K A) := by
  refine F.okX sc_answer (fun vs H Q E h => ?_) (fun cdv A_ outer s H vs Q E hr h => ?_)
  · obtain ⟨z, a, bs, rfl, _⟩ := h; rfl
  · obtain ⟨z, a, bs, rfl, hS, hz, o⟩ := h
    refine ⟨_, (pss_cons (ps_set (i := 2) sc_answer.nd rfl (.inl rfl) (pe_cx c_wants hr (by decide) rfl (takes_of rfl rfl rfl rfl) (pa_cons (pv 0) pa_nil))) (pss_cons (ps_if (pt_not (pt_chain op_le op_le (pe_ix (ixT K) (pv 2) pe_int (fun _ _ => rfl)) (pe_callB (c_len K) (by rfl) T.n_len PySem.boot_len (pa_cons (pv 1) pa_nil)) (pe_ix (ixT K) (pv 2) pe_int (fun _ _ => rfl)))) (pss_cons (ps_raise rfl (takes_of rfl rfl rfl rfl) (pmk_own PySem.F.excBase_ValueError T.x_NoSources T.g_NoSources T.k_NoSources (raises_own T.b_NoSources T.t_NoSources) rfl)) pss_nil) pss_nil) (pss_cons (ps_if (PW.pt (pw_or (pt_cmpR op_eq (pv 0) pe_str (nomark _)) (pw_or1 (pt_cmpR op_eq (pv 0) pe_str (nomark _))))) (pss_cons (ps_ret (pe_cmpR op_eq (pv 0) pe_str (nomark _))) pss_nil) pss_nil) (pss_cons (ps_if (PW.pt (pw_or (pt_cmpR op_eq (pv 0) pe_str (nomark _)) (pw_or1 (pt_cmpR op_eq (pv 0) pe_str (nomark _))))) (pss_cons (ps_ret (pe_cmpR op_eq (pe_ix (ixL K) (pv 1) pe_int (fun _ _ => rfl)) (pe_cmpR op_eq (pv 0) pe_str (nomark _)) (nomark _))) pss_nil) pss_nil) (pss_cons (ps_if (pt_cmpR op_eq (pv 0) pe_str (nomark _)) (pss_cons (ps_ret (pe_callB (c_all K rfl) (by rfl) T.n_all (by decide +kernel) (pa_cons (pv 1) pa_nil))) pss_nil) pss_nil) (pss_cons (ps_if (pt_cmpR op_eq (pv 0) pe_str (nomark _)) (pss_cons (ps_ret (pe_callB (c_any K rfl) (by rfl) T.n_any (by decide +kernel) (pa_cons (pv 1) pa_nil))) pss_nil) pss_nil) (pss_cons (ps_if (pt_cmpR op_eq (pv 0) pe_str (nomark _)) (pss_cons (ps_ret (pe_ifExp (pt_val (pe_ix (ixL K) (pv 1) pe_int (fun _ _ => rfl))) (pe_ix (ixL K) (pv 1) pe_int (fun _ _ => rfl)) (pe_ix (ixL K) (pv 1) pe_int (fun _ _ => rfl)))) pss_nil) pss_nil) (pss_cons (ps_set (i := 3) sc_answer.nd rfl (.inl rfl) (pe_callB (c_len K) (by rfl) T.n_len PySem.boot_len (pa_cons (pe_lc (own := [("one", 4)]) (g := gName 4) rfl sc_answer.nd (pi_L K (pv 1)) (blkOk_by (own := [("one", 4)]) (N := ["kind", "given", "bounds", "many", "one"]) (sc := defScope s_answer) (by decide +kernel)) (fun _ _ _ _ _ => pg_name (i := 4) sc_answer.nd rfl (Or.inl rfl)) (fun _ _ _ _ _ => (pts_one (pt_val (pv 4)))) (fun _ _ _ _ _ => (pv 4))) pa_nil))) (pss_cons (ps_if (pt_cmpR op_eq (pv 0) pe_str (nomark _)) (pss_cons (ps_ret (pe_cmpR op_ge (pv 3) pe_int (nomark _))) pss_nil) pss_nil) (pss_cons (ps_ret (pe_cmpR op_eq (pe_op op_mod (pv 3) pe_int) pe_int (nomark _))) pss_nil)))))))))), ?_⟩
    try dsimp only [cxOf, Cx.blk]
    refine Go.start (σ := [some (.str z), some (.ref a), none, none, none]) ?_
    cases hw : wantsM z with
    | error x =>
      refine go_asgF (ef_call (by walk_at "ea") fun H1 e1 Q1 => ⟨z, rfl, out_err hw fun H2 e2 => ?_⟩)
      exact o.err x (by unfold answerM; rw [hw]) (e1.trans e2)
    | ok b =>
      obtain ⟨lo, hi⟩ := b
      refine go_asgP (ep_call (by walk_at "ea") (spg_out (r := wantsM z) (R := RT1 K fun b : Int × Int => [.int b.1, .int b.2]) (A := A) (fun H1 e1 Q1 E1 o1 => ⟨z, rfl, o1⟩) hw)) (fun v G1 e1 hv => ?_)
      obtain ⟨H0, _, _, p, rfl, hp⟩ := hv
      have hp : SqT K G1 p [.int lo, .int hi] := hp
      have hS1 := ex_l e1 hS
      have hl : (bs.map V.bl).length = bs.length := List.length_map _
      have i0 : atI [V.int lo, V.int hi] 0 = some (.int lo) := rfl
      have i1 : atI [V.int lo, V.int hi] 1 = some (.int hi) := rfl
      have el : Ev (tCB (rLenS K) (tCons (tVar 1) tNil)) [some (.str z), some (.ref a), some (.ref p), none, none] G1 (.int (bs.length : Int)) := hl ▸ ev_len (ev_var rfl) hS1
      refine go_when (b := !(decide (lo ≤ (bs.length : Int)) && decide ((bs.length : Int) ≤ hi))) (et_not (et_test (ev_chI (by walk_at "ev") el (by walk_at "ev")))) (fun h => ?_) (fun h => ?_)
      · have h2 : ¬ (lo ≤ (bs.length : Int) ∧ (bs.length : Int) ≤ hi) := fun ⟨p, q⟩ => by simp [p, q] at h
        exact go_raise fun _ _ H1 e2 => o.err .sources (by unfold answerM; rw [hw]; simp [h2]) (e1.trans e2)
      · have h2 : lo ≤ (bs.length : Int) ∧ (bs.length : Int) ≤ hi := by simpa using h
        have hm : answerM z bs = .ok (answerV z bs) := by unfold answerM; rw [hw]; simp [h2]
        have fin : ∀ b : Bool, answerV z bs = b → ∀ H1, Ex G1 H1 → Q (.bl b) H1 := fun b hb H1 e2 => o.ok _ hm (e1.trans e2) (by rw [hb]; rfl)
        -- how many
        have hlo : ∀ i, least z = some i → lo = i ∧ hi = if i = 2 then 9 else i := fun i hi' => by
          unfold wantsM at hw; rw [hi'] at hw; injection hw with hw; injection hw with h3 h4; exact ⟨h3.symm, h4.symm⟩
        have bit : ∀ k : Nat, (k : Int) < bs.length → atI (bs.map V.bl) (k : Int) = some (.bl (bs.getD k false)) := fun k hk => by
          have := at_map V.bl bs false (k := (k : Int)) (by omega) hk
          simpa using this
        refine go_when (by walk_at "et") (fun h => ?_) (fun h => ?_)
        · have h3 : z = "yes" ∨ z = "no" := by simpa using h
          exact go_ret (by walk_at "ev") fun H1 e2 => fin _ (by unfold answerV; rw [if_pos h3]) H1 e2
        have n1 : ¬ (z = "yes" ∨ z = "no") := by simpa using h
        refine go_when (by walk_at "et") (fun h => ?_) (fun h => ?_)
        · have h3 : z = "keep" ∨ z = "not" := by simpa using h
          have h4 : least z = some 1 := by rcases h3 with rfl | rfl <;> rfl
          have b0 := bit 0 (by have := (hlo 1 h4).1; omega)
          have b0' : atI (bs.map V.bl) 0 = some (.bl (bs.getD 0 false)) := b0
          exact go_ret (by walk_at "ev") fun H1 e2 => fin _ (by unfold answerV; rw [if_neg n1, if_pos h3]) H1 e2
        have n2 : ¬ (z = "keep" ∨ z = "not") := by simpa using h
        refine go_when (by walk_at "et") (fun h => ?_) (fun h => ?_)
        · have h3 : z = "both" := by simpa using h
          exact go_ret (by walk_at "ev") fun H1 e2 => fin _ (by unfold answerV; rw [if_neg n1, if_neg n2, if_pos h3]) H1 e2
        have n3 : ¬ z = "both" := by simpa using h
        refine go_when (by walk_at "et") (fun h => ?_) (fun h => ?_)
        · have h3 : z = "either" := by simpa using h
          exact go_ret (by walk_at "ev") fun H1 e2 => fin _ (by unfold answerV; rw [if_neg n1, if_neg n2, if_neg n3, if_pos h3]) H1 e2
        have n4 : ¬ z = "either" := by simpa using h
        refine go_when (by walk_at "et") (fun h => ?_) (fun h => ?_)
        · have h3 : z = "pick" := by simpa using h
          have h4 : least z = some 3 := by rw [h3]; rfl
          have l3 : (3 : Int) ≤ bs.length := by have := (hlo 3 h4).1; omega
          have b0 : atI (bs.map V.bl) 0 = some (.bl (bs.getD 0 false)) := bit 0 (by omega)
          have b1 : atI (bs.map V.bl) 1 = some (.bl (bs.getD 1 false)) := bit 1 (by omega)
          have b2 : atI (bs.map V.bl) 2 = some (.bl (bs.getD 2 false)) := bit 2 (by omega)
          refine go_ret (v := .bl (if bs.getD 0 false = true then bs.getD 1 false else bs.getD 2 false)) (ev_if (by walk_at "et") (fun h => ?_) (fun h => ?_)) fun H1 e2 => fin _ (by unfold answerV; rw [if_neg n1, if_neg n2, if_neg n3, if_neg n4, if_pos h3]) H1 e2
          · rw [if_pos h]; walk_at "ev"
          · rw [if_neg (by rw [h]; decide)]; walk_at "ev"
        have n5 : ¬ z = "pick" := by simpa using h
        have ef : Ev (tCB (rLenS K) (tCons (tLc (iList K (tVar 1)) (gName 4) (tB (tVar 4)) (tVar 4) [4]) tNil)) [some (.str z), some (.ref a), some (.ref p), none, none] G1 (.int ((bs.filter id).length : Int)) := by
          have q := ev_lenN (K := K) (el_lcF (K := K) (σ := [some (.str z), some (.ref a), some (.ref p), none, none]) (G := G1) (tl := tVar 1) (t := tB (tVar 4)) (te := tVar 4) (j := 4) (vs := [4]) bs V.bl id V.bl (ev_var rfl) hS1 hz (fun _ => rfl)
            (fun x _ => et_B (ev_var rfl)) (fun x _ _ => ev_var rfl))
          rw [List.length_map] at q
          exact q
        refine go_asg ef ?_
        refine go_when (by walk_at "et") (fun h => ?_) (fun h => ?_)
        · have h3 : z = "most" := by simpa using h
          exact go_ret (by walk_at "ev") fun H1 e2 => fin _ (by unfold answerV; rw [if_neg n1, if_neg n2, if_neg n3, if_neg n4, if_neg n5, if_pos h3]) H1 e2
        have n6 : ¬ z = "most" := by simpa using h
        exact go_ret (by walk_at "ev") fun H1 e2 => fin _ (by unfold answerV; rw [if_neg n1, if_neg n2, if_neg n3, if_neg n4, if_neg n5, if_neg n6]) H1 e2

end

section
variable {P : Program} {w : World} {K : PySem.W.Frag} {mg : Str → Option Value} {base : Heap} {A : Ads}
def sp_answered (K : PySem.W.Frag) (A : Ads) : Sp := fun vs H Q E => ∃ v p a bs l, vs = [v, .ref a, .int l] ∧ PlanAt K H v p ∧ Valid p ∧ SqL K H a ((bs : List Bool).map V.bl) ∧ (bs.length : Int) = p.lines ∧ p.many ≤ l ∧ l < p.lines ∧ RetV (.bl (ansF p bs l)) H Q
theorem sv_answered {K : PySem.W.Frag} {A : Ads} {G : Hp} {v : V} {p : Plan} {a : Addr} {bs : List Bool} {l : Int} (h : PlanAt K G v p) (hv : Valid p) (hb : SqL K G a (bs.map V.bl)) (hl : (bs.length : Int) = p.lines) (l0 : p.many ≤ l) (l1 : l < p.lines) : SpV (sp_answered K A) [v, .ref a, .int l] G (.bl (ansF p bs l)) := fun _ e _ q _ =>
  ⟨v, p, a, bs, l, rfl, h.mono e, hv, ex_l e hb, hl, l0, l1, q⟩
theorem ok_answered {f : Addr} {fd : FuncData} (F : Fun K "answered" "answered" s_answered f fd) (T : Txt K w mg A) (c_answer : CalX P w K mg base 2 "answer" (sp_answer K A)) : FnOk P w K mg base (L2.CX P w) 3 f fd ["plan", "values", "line"] (sp_answered K A) := by
  refine F.okX sc_answered (fun vs H Q E h => ?_) (fun cdv A_ outer s H vs Q E hr h => ?_)
  · obtain ⟨v, p, a, bs, l, rfl, _⟩ := h; rfl
  · obtain ⟨v, p, b, bs, l, rfl, ⟨a, g, rfl, hP, ws, hL, hR⟩, hv, hB, hbl, l0, l1, q⟩ := h
    refine ⟨_, (pss_cons (ps_set (i := 3) sc_answered.nd rfl (.inl rfl) (pe_ix (ixL K) (pe_ix (ixT K) (pv 0) pe_int (fun _ _ => rfl)) (pe_op op_sub (pv 2) (pe_ix (ixT K) (pv 0) pe_int (fun _ _ => rfl))) (fun _ _ => rfl))) (pss_cons (ps_ret (pe_cx c_answer hr (by decide) rfl (takes_of rfl rfl rfl rfl) (pa_cons (pe_ix (ixT K) (pv 3) pe_int (fun _ _ => rfl)) (pa_cons (pe_lc (own := [("source", 4)]) (g := gName 4) (tt := tYes) rfl sc_answered.nd (pi_T K (pe_ix (ixT K) (pv 3) pe_int (fun _ _ => rfl))) (blkOk_by (own := [("source", 4)]) (N := ["plan", "values", "line", "gate", "source"]) (sc := defScope s_answered) (by decide +kernel)) (fun _ _ _ _ _ => pg_name (i := 4) sc_answered.nd rfl (Or.inl rfl)) (fun _ _ _ _ _ => pts_nil) (fun _ _ _ _ _ => (pe_ix (ixL K) (pv 1) (pv 4) (fun _ _ => rfl)))) pa_nil)))) pss_nil)), ?_⟩
    try dsimp only [cxOf, Cx.blk]
    refine Go.start (σ := [some (.ref a), some (.ref b), some (.int l), none, none]) ?_
    obtain ⟨hg, hgm⟩ := gateN_get l0 l1
    have he := hv.gate _ hgm
    have m0 := hv.m0
    obtain ⟨w, hw, ga, gs, rfl, hG, hS⟩ := rows_get hR hg
    obtain ⟨_, hsr, _⟩ := gate_ok he
    have hz := gate_short he
    have ha := answer_gate he bs
    unfold ansF at q
    generalize gateN p l = gt at *
    have i0 : atI [V.int p.many, .ref g] 0 = some (.int p.many) := rfl
    have i1 : atI [V.int p.many, .ref g] 1 = some (.ref g) := rfl
    have j0 : atI [V.str gt.kind, .ref gs, .int gt.delay] 0 = some (.str gt.kind) := rfl
    have j1 : atI [V.str gt.kind, .ref gs, .int gt.delay] 1 = some (.ref gs) := rfl
    have k0 : atI ws (l - p.many) = some (.ref ga) := by
      rw [show l - p.many = ((l - p.many).toNat : Int) by omega]; exact at_list hw
    refine go_asg (ev_op (ev_op (ev_var rfl) ev_c (rv_ixT hP i1)) (ev_op (ev_var rfl) (ev_op (ev_var rfl) ev_c (rv_ixT hP i0)) rv_I0) (rv_ixL hL k0)) ?_
    refine go_ret (ev_callP (z := .bl (gateV gt bs)) (eap_VL (v := .str gt.kind) (ev_op (ev_var rfl) ev_c (rv_ixT hG j0)) (el_bits (vs := bs) (a := b) (ev_op (ev_var rfl) ev_c (rv_ixT hG j1)) hS (by omega) hB (fun _ => rfl) (fun _ => rfl) (fun _ => rfl) fun x hx => by rw [hbl]; exact hsr x hx)) fun vs G' e h => ?_) fun H1 e1 => q H1 e1
    obtain ⟨r, rfl, hr⟩ := h
    exact spv_out (r := answerM gt.kind (bitsOf bs gt.srcs)) (A := A) (f := V.bl) (fun H1 e1 Q1 E1 o1 => ⟨gt.kind, r, bitsOf bs gt.srcs, rfl, ex_l e1 (sq_of hr), by unfold bitsOf; rw [List.length_map]; omega, o1⟩) ha

end

section
variable {P : Program} {w : World} {K : PySem.W.Frag} {mg : Str → Option Value} {base : Heap} {A : Ads}
def sp_settled (K : PySem.W.Frag) (A : Ads) : Sp := fun vs H Q E => ∃ v p b ins, vs = [v, .ref b] ∧ PlanAt K H v p ∧ SqL K H b ((ins : List Bool).map V.bl) ∧ ins.length ≤ 40000 ∧ Out A H Q E (RL1 fun f : List Bool => f.map V.bl) (settledR p ins)
theorem sl_settled {K : PySem.W.Frag} {A : Ads} {G : Hp} {v : V} {p : Plan} {b : Addr} {ins f : List Bool} (h : PlanAt K G v p) (hb : SqL K G b (ins.map V.bl)) (hn : ins.length ≤ 40000) (ho : settledR p ins = .ok f) : SpL (sp_settled K A) [v, .ref b] G (f.map V.bl) :=
  spl_out (r := settledR p ins) (A := A) (f := fun f : List Bool => f.map V.bl) (fun H1 e1 Q1 E1 o1 => ⟨v, p, b, ins, rfl, h.mono e1, ex_l e1 hb, hn, o1⟩) ho
theorem ok_settled {f : Addr} {fd : FuncData} (F : Fun K "settled" "settled" s_settled f fd) (T : Txt K w mg A) (c_checked : CalX P w K mg base 3 "checked" (sp_checked K A)) (c_order : CalX P w K mg base 5 "order" (sp_order K A)) (c_answered : CalX P w K mg base 3 "answered" (sp_answered K A)) : FnOk P w K mg base (L2.CX P w) 6 f fd ["plan", "ins"] (sp_settled K A) := by
  refine F.okX sc_settled (fun vs H Q E h => ?_) (fun cdv A_ outer s H vs Q E hr h => ?_)
  · obtain ⟨v, p, b, ins, rfl, _⟩ := h; rfl
  · obtain ⟨v, p, b, ins, rfl, hP, hB, hn, o⟩ := h
    refine ⟨_, (pss_cons (ps_expr (pe_cx c_checked hr (by decide) rfl (takes_of rfl rfl rfl rfl) (pa_cons (pv 0) pa_nil))) (pss_cons (ps_if (pt_cmpR op_ne (pe_callB (c_len K) (by rfl) T.n_len PySem.boot_len (pa_cons (pv 1) pa_nil)) (pe_ix (ixT K) (pv 0) pe_int (fun _ _ => rfl)) (nomark _)) (pss_cons (ps_raise rfl (takes_of rfl rfl rfl rfl) (pmk_own PySem.F.excBase_ValueError T.x_NoValues T.g_NoValues T.k_NoValues (raises_own T.b_NoValues T.t_NoValues) rfl)) pss_nil) pss_nil) (pss_cons (ps_set (i := 2) sc_settled.nd rfl (.inl rfl) (pe_op op_cat (pe_callTy (c_list K) (by rfl) T.n_list (by decide +kernel) (pa_cons (pv 1) pa_nil)) (pe_op op_rep (pe_lst (pa_cons pe_bl pa_nil)) (pe_callB (c_len K) (by rfl) T.n_len PySem.boot_len (pa_cons (pe_ix (ixT K) (pv 0) pe_int (fun _ _ => rfl)) pa_nil))))) (pss_cons (ps_for (passes_of rfl) rfl (pi_L K (pe_cx c_order hr (by decide) rfl (takes_of rfl rfl rfl rfl) (pa_cons (pv 0) pa_nil))) (pg_name (i := 3) sc_settled.nd rfl (.inl rfl)) (pss_cons (ps_asg (pe_cx c_answered hr (by decide) rfl (takes_of rfl rfl rfl rfl) (pa_cons (pv 0) (pa_cons (pv 2) (pa_cons (pv 3) pa_nil)))) (pg_sub (pv 2) (pv 3) set_list)) pss_nil)) (pss_cons (ps_ret (pv 2)) pss_nil))))), ?_⟩
    try dsimp only [cxOf, Cx.blk]
    refine Go.start (σ := [some v, some (.ref b), none, none]) ?_
    cases hv : errPlan p with
    | some e =>
      refine go_dropF (ef_call (by walk_at "ea") fun H1 e1 Q1 => ⟨v, p, rfl, hP.mono e1, out_err (x := e) (by unfold checkedM; rw [hv]; rfl) fun H2 e2 => ?_⟩)
      exact o.err e (by unfold settledR; rw [hv]) (e1.trans e2)
    | none =>
      have hval := valid_iff.mp hv
      obtain ⟨m0, m60, n200, hgate⟩ := id hval
      obtain ⟨a, g, rfl, hPa, ws, hL, hR⟩ := id hP
      have hwl := hR.1
      have i0 : atI [V.int p.many, .ref g] 0 = some (.int p.many) := rfl
      have i1 : atI [V.int p.many, .ref g] 1 = some (.ref g) := rfl
      refine go_drop (ev_callS (ea_cons (ev_var rfl) ea_nil) (sv_checked hP hval)) ?_
      have hl : Ev (tCB (rLenS K) (tCons (tVar 1) tNil)) ([some (.ref a), some (.ref b), none, none]) H (.int (ins.length : Int)) := by
        have q := ev_len (K := K) (ta := tVar 1) (σ := [some (.ref a), some (.ref b), none, none]) (ev_var rfl) hB
        rw [List.length_map] at q
        exact q
      refine go_when (b := !decide ((ins.length : Int) = p.many)) (et_test (ev_op hl (ev_op (ev_var rfl) ev_c (rv_ixT hPa i0)) rv_neI)) (fun h => ?_) (fun h => ?_)
      · have h2 : ¬ (ins.length : Int) = p.many := by simpa using h
        exact go_raise fun _ _ H1 e2 => o.err .values (by unfold settledR; rw [hv]; simp only [ne_eq, h2, not_false_eq_true, if_true]) e2
      have h2 : (ins.length : Int) = p.many := by simpa using h
      refine go_asgL (el_catN (el_list (ev_var rfl) hB) (el_rep (v := .bl false) (k := (ws.length : Int)) (el_lst (ea_cons ev_c ea_nil) (by show 1 ≤ 100000; decide)) (ev_len (ev_op (ev_var rfl) ev_c (rv_ixT hPa i1)) hL) (by omega) (by omega)) (by simp only [List.length_map, List.length_replicate]; omega)) fun pf hpf => ?_
      have e0 : ins.map V.bl ++ List.replicate (ws.length : Int).toNat (V.bl false) = (ins ++ List.replicate p.gates.length false).map V.bl := by
        rw [List.map_append, List.map_replicate, hwl]; rfl
      rw [e0]
      have hP1 := hP.mono (Ex.new (o := .lst ((ins ++ List.replicate p.gates.length false).map V.bl)) hpf)
      cases ho : orderM p with
      | error e =>
        refine go_forLF (ef_call (ea_cons (ev_var rfl) ea_nil) fun H1 e1 Q1 => ⟨.ref a, p, rfl, hP1.mono e1, out_err (x := e) ho fun H2 e2 => ?_⟩)
        exact o.err e (by unfold settledR; rw [hv]; simp only [h2, ne_eq, not_true_eq_false, if_false, ho]) (((Ex.new hpf).trans e1).trans e2)
      | ok f =>
        obtain ⟨_, hm⟩ := order_mem ho
        refine go_forNB H (el_callS (ea_cons (ev_var rfl) ea_nil) (sl_order hP1 ho)) (Ex.new hpf) (fun q i σ' G' => ∃ y, σ' = [some (.ref a), some (.ref b), some (.ref pf), y] ∧ G' pf = some (.lst ((settleBy p ins (f.take i)).map V.bl))) (fun q hq => ?_) ?_ ?_
        · refine ⟨none, rfl, ?_⟩
          rw [Ex.new hq pf _ upd_same, List.take_zero]
          rfl
        · rintro q i x σ' G' hq hx e2 ⟨y, rfl, hd⟩
          have hqH : H q = none := (Ex.new hpf).none hq
          have e0 : Ex H G' := (Ex.new hqH).trans e2
          have nq : pf ≠ q := ne_of_none (o := .lst ((ins ++ List.replicate p.gates.length false).map V.bl)) (H := upd H pf (.lst ((ins ++ List.replicate p.gates.length false).map V.bl))) upd_same hq
          rw [List.getElem?_map] at hx
          cases hl : f[i]? with
          | none => rw [hl] at hx; cases hx
          | some l =>
            rw [hl] at hx
            cases hx
            obtain ⟨l0, l1⟩ := (hm l).mp (List.mem_of_getElem? hl)
            have hll : ((settleBy p ins (f.take i)).length : Int) = p.lines := by
              unfold settleBy
              rw [foldSet_len, List.length_append, List.length_replicate]; unfold Plan.lines; omega
            refine go_setL (j := l.toNat) (v := .bl (ansF p (settleBy p ins (f.take i)) l)) (ev_callS (ea_cons (ev_var rfl) (ea_cons (ev_var rfl) (ea_cons (ev_var rfl) ea_nil))) (sv_answered (hP.mono e0) hval (sq_of hd) hll l0 l1)) (ev_var rfl) hd (ev_is (ev_var rfl) (by rw [Int.toNat_of_nonneg (by omega)])) (by rw [List.length_map]; omega) ?_
            refine go_kb (Ex.mut e2 (by rw [upd_ne nq]; exact hpf)) ⟨_, rfl, ?_⟩
            rw [upd_same, List.take_add_one, hl]
            show _ = some (HO.lst ((settleBy p ins (f.take i ++ [l])).map V.bl))
            unfold settleBy
            rw [foldSet_snoc, List.map_set]
        · rintro q σ' G' hq e2 ⟨y, rfl, hd⟩
          have hqH : H q = none := (Ex.new hpf).none hq
          have e0 : Ex H G' := (Ex.new hqH).trans e2
          refine go_ret (ev_var rfl) fun H1 e3 => ?_
          rw [List.length_map, List.take_length] at hd
          exact o.ok (settleBy p ins f) (settled_ok ho h2) (e0.trans e3) ⟨pf, rfl, hpf, e3 _ _ hd⟩

end

section
variable {P : Program} {w : World} {K : PySem.W.Frag} {mg : Str → Option Value} {base : Heap} {A : Ads}
def sp_l_answered (K : PySem.W.Frag) (A : Ads) : Sp := fun vs H Q E => ∃ z a bs b, vs = [.str z, .ref a] ∧ SqL K H a (bs.map V.bl) ∧ bs.length ≤ 40000 ∧ answerM z bs = .ok b ∧ RetV (.bl b) H Q
theorem sv_l_answered {K : PySem.W.Frag} {A : Ads} {G : Hp} {z : Str} {a : Addr} {bs : List Bool} {b : Bool} (h : SqL K G a (bs.map V.bl)) (h0 : bs.length ≤ 40000) (h1 : answerM z bs = .ok b) : SpV (sp_l_answered K A) [.str z, .ref a] G (.bl b) := fun _ e _ q _ =>
  ⟨z, a, bs, b, rfl, ex_l e h, h0, h1, q⟩
theorem ok_l_answered {f : Addr} {fd : FuncData} (F : Fun K "_law_answered" "_law_answered" s_l_answered f fd) (T : Txt K w mg A)  : FnOk P w K mg base (L2.CX P w) 1 f fd ["_law_kind", "_law_given"] (sp_l_answered K A) := by
  refine F.okX sc_l_answered (fun vs H Q E h => ?_) (fun cdv A_ outer s H vs Q E hr h => ?_)
  · obtain ⟨z, a, bs, b, rfl, _⟩ := h; rfl
  · obtain ⟨z, a, bs, b, rfl, hS, hz, hb, q⟩ := h
    refine ⟨_, (pss_cons (ps_set (i := 2) sc_l_answered.nd rfl (.inl rfl) (pe_callB (c_len K) (by rfl) T.n_len PySem.boot_len (pa_cons (pe_lc (own := [("_law_one", 3)]) (g := gName 3) rfl sc_l_answered.nd (pi_L K (pv 1)) (blkOk_by (own := [("_law_one", 3)]) (N := ["_law_kind", "_law_given", "_law_many_here", "_law_one"]) (sc := defScope s_l_answered) (by decide +kernel)) (fun _ _ _ _ _ => pg_name (i := 3) sc_l_answered.nd rfl (Or.inl rfl)) (fun _ _ _ _ _ => (pts_one (pt_val (pv 3)))) (fun _ _ _ _ _ => (pv 3))) pa_nil))) (pss_cons (ps_if (PW.pt (pw_or (pt_cmpR op_eq (pv 0) pe_str (nomark _)) (pw_or1 (pt_cmpR op_eq (pv 0) pe_str (nomark _))))) (pss_cons (ps_ret (pe_cmpR op_eq (pv 0) pe_str (nomark _))) pss_nil) pss_nil) (pss_cons (ps_if (pt_cmpR op_eq (pv 0) pe_str (nomark _)) (pss_cons (ps_ret (pe_ix (ixL K) (pv 1) pe_int (fun _ _ => rfl))) pss_nil) pss_nil) (pss_cons (ps_if (pt_cmpR op_eq (pv 0) pe_str (nomark _)) (pss_cons (ps_ret (pe_not (pe_ix (ixL K) (pv 1) pe_int (fun _ _ => rfl)))) pss_nil) pss_nil) (pss_cons (ps_if (pt_cmpR op_eq (pv 0) pe_str (nomark _)) (pss_cons (ps_ret (pe_cmpR op_eq (pv 2) (pe_callB (c_len K) (by rfl) T.n_len PySem.boot_len (pa_cons (pv 1) pa_nil)) (nomark _))) pss_nil) pss_nil) (pss_cons (ps_if (pt_cmpR op_eq (pv 0) pe_str (nomark _)) (pss_cons (ps_ret (pe_cmpR op_gt (pv 2) pe_int (nomark _))) pss_nil) pss_nil) (pss_cons (ps_if (pt_cmpR op_eq (pv 0) pe_str (nomark _)) (pss_cons (ps_ret (pe_cmpR op_eq (pe_op op_mod (pv 2) pe_int) pe_int (nomark _))) pss_nil) pss_nil) (pss_cons (ps_if (pt_cmpR op_eq (pv 0) pe_str (nomark _)) (pss_cons (ps_ret (pe_cmpR op_gt (pv 2) pe_int (nomark _))) pss_nil) pss_nil) (pss_cons (ps_if (pt_val (pe_ix (ixL K) (pv 1) pe_int (fun _ _ => rfl))) (pss_cons (ps_ret (pe_ix (ixL K) (pv 1) pe_int (fun _ _ => rfl))) pss_nil) pss_nil) (pss_cons (ps_ret (pe_ix (ixL K) (pv 1) pe_int (fun _ _ => rfl))) pss_nil)))))))))), ?_⟩
    try dsimp only [cxOf, Cx.blk]
    obtain ⟨hv, i, hi, hil⟩ := answerM_ok hb
    refine Go.start (σ := [some (.str z), some (.ref a), none, none]) ?_
    have hl : (bs.map V.bl).length = bs.length := List.length_map _
    have ef : Ev (tCB (rLenS K) (tCons (tLc (iList K (tVar 1)) (gName 3) (tB (tVar 3)) (tVar 3) [3]) tNil)) [some (.str z), some (.ref a), none, none] H (.int ((bs.filter id).length : Int)) := by
      have q := ev_lenN (K := K) (el_lcF (K := K) (σ := [some (.str z), some (.ref a), none, none]) (G := H) (tl := tVar 1) (t := tB (tVar 3)) (te := tVar 3) (j := 3) (vs := [3]) bs V.bl id V.bl (ev_var rfl) hS hz (fun _ => rfl)
        (fun x _ => et_B (ev_var rfl)) (fun x _ _ => ev_var rfl))
      rw [List.length_map] at q
      exact q
    refine go_asg ef ?_
    have fin : ∀ c : Bool, answerV z bs = c → ∀ H1, Ex H H1 → Q (.bl c) H1 := fun c hc H1 e2 => by rw [← hc, ← hv]; exact q H1 e2
    have bit : ∀ k : Nat, (k : Int) < bs.length → atI (bs.map V.bl) (k : Int) = some (.bl (bs.getD k false)) := fun k hk => by
      have := at_map V.bl bs false (k := (k : Int)) (by omega) hk
      simpa using this
    refine go_when (by walk_at "et") (fun h => ?_) (fun h => ?_)
    · have h3 : z = "yes" ∨ z = "no" := by simpa using h
      exact go_ret (by walk_at "ev") fun H1 e2 => fin _ (by unfold answerV; rw [if_pos h3]) H1 e2
    have n1 : ¬ (z = "yes" ∨ z = "no") := by simpa using h
    refine go_when (by walk_at "et") (fun h => ?_) (fun h => ?_)
    · have h3 : z = "keep" := by simpa using h
      subst h3
      have b0 : atI (bs.map V.bl) 0 = some (.bl (bs.getD 0 false)) := bit 0 (by cases hi; omega)
      exact go_ret (by walk_at "ev") fun H1 e2 => fin _ (by unfold answerV; rw [if_neg n1, if_pos (Or.inl rfl)]; simp) H1 e2
    have n2 : ¬ z = "keep" := by simpa using h
    refine go_when (by walk_at "et") (fun h => ?_) (fun h => ?_)
    · have h3 : z = "not" := by simpa using h
      subst h3
      have b0 : atI (bs.map V.bl) 0 = some (.bl (bs.getD 0 false)) := bit 0 (by cases hi; omega)
      exact go_ret (by walk_at "ev") fun H1 e2 => fin _ (by unfold answerV; rw [if_neg n1, if_pos (Or.inr rfl)]; cases bs.getD 0 false <;> rfl) H1 e2
    have n3 : ¬ z = "not" := by simpa using h
    have n23 : ¬ (z = "keep" ∨ z = "not") := fun h => h.elim n2 n3
    refine go_when (by walk_at "et") (fun h => ?_) (fun h => ?_)
    · have h3 : z = "both" := by simpa using h
      refine go_ret (by walk_at "ev") fun H1 e2 => fin _ (by unfold answerV; rw [if_neg n1, if_neg n23, if_pos h3, all_count]; exact decide_eq_decide.mpr (by omega)) H1 e2
    have n4 : ¬ z = "both" := by simpa using h
    refine go_when (by walk_at "et") (fun h => ?_) (fun h => ?_)
    · have h3 : z = "either" := by simpa using h
      refine go_ret (by walk_at "ev") fun H1 e2 => fin _ (by unfold answerV; rw [if_neg n1, if_neg n23, if_neg n4, if_pos h3, any_count]; exact decide_eq_decide.mpr (by omega)) H1 e2
    have n5 : ¬ z = "either" := by simpa using h
    refine go_when (by walk_at "et") (fun h => ?_) (fun h => ?_)
    · have h3 : z = "unlike" := by simpa using h
      subst h3
      refine go_ret (by walk_at "ev") fun H1 e2 => fin _ (by unfold answerV; rw [if_neg n1, if_neg n23, if_neg n4, if_neg n5, if_neg (by decide), if_neg (by decide)]) H1 e2
    have n6 : ¬ z = "unlike" := by simpa using h
    refine go_when (by walk_at "et") (fun h => ?_) (fun h => ?_)
    · have h3 : z = "most" := by simpa using h
      subst h3
      refine go_ret (by walk_at "ev") fun H1 e2 => fin _ (by unfold answerV; rw [if_neg n1, if_neg n23, if_neg n4, if_neg n5, if_neg (by decide), if_pos rfl]; apply decide_eq_decide.mpr; omega) H1 e2
    have n7 : ¬ z = "most" := by simpa using h
    have h3 : z = "pick" := by
      rcases least_cases hi with h | h | h | h | h | h | h | h | h
      · exact absurd (Or.inl h) n1
      · exact absurd (Or.inr h) n1
      · exact absurd h n2
      · exact absurd h n3
      · exact absurd h n4
      · exact absurd h n5
      · exact absurd h n6
      · exact h
      · exact absurd h n7
    subst h3
    have l3 : (3 : Int) ≤ bs.length := by cases hi; omega
    have b0 : atI (bs.map V.bl) 0 = some (.bl (bs.getD 0 false)) := bit 0 (by omega)
    have b1 : atI (bs.map V.bl) 1 = some (.bl (bs.getD 1 false)) := bit 1 (by omega)
    have b2 : atI (bs.map V.bl) 2 = some (.bl (bs.getD 2 false)) := bit 2 (by omega)
    refine go_when (by walk_at "et") (fun h => ?_) (fun h => ?_)
    · exact go_ret (by walk_at "ev") fun H1 e2 => fin _ (by unfold answerV; rw [if_neg n1, if_neg n23, if_neg n4, if_neg n5, if_pos rfl, if_pos h]) H1 e2
    · exact go_ret (by walk_at "ev") fun H1 e2 => fin _ (by unfold answerV; rw [if_neg n1, if_neg n23, if_neg n4, if_neg n5, if_pos rfl, if_neg (by rw [h]; decide)]) H1 e2

end
local macro_rules | `(tactic| walk_at "sv") => `(tactic| exact sv_l_answered (by walk_at "sd") (by walk_at "sd") (by walk_at "sd"))

section
variable {P : Program} {w : World} {K : PySem.W.Frag} {mg : Str → Option Value} {base : Heap} {A : Ads}
def sp_l_settled (K : PySem.W.Frag) (A : Ads) : Sp := fun vs H Q E => ∃ v p b ins c bs, vs = [v, .ref b, .ref c] ∧ PlanAt K H v p ∧ Valid p ∧ SqL K H b ((ins : List Bool).map V.bl) ∧ p.many ≤ (ins.length : Int) ∧ SqL K H c ((bs : List Bool).map V.bl) ∧ Solves p ins bs ∧ RetV (.bl true) H Q
theorem sv_lsettled {K : PySem.W.Frag} {A : Ads} {G : Hp} {v : V} {p : Plan} {b c : Addr} {ins bs : List Bool} (h : PlanAt K G v p) (hv : Valid p) (hb : SqL K G b (ins.map V.bl)) (hn : p.many ≤ (ins.length : Int)) (hc : SqL K G c (bs.map V.bl)) (hs : Solves p ins bs) : SpV (sp_l_settled K A) [v, .ref b, .ref c] G (.bl true) := fun _ e _ q _ =>
  ⟨v, p, b, ins, c, bs, rfl, h.mono e, hv, ex_l e hb, hn, ex_l e hc, hs, q⟩
theorem ok_l_settled {f : Addr} {fd : FuncData} (F : Fun K "_law_settled" "_law_settled" s_l_settled f fd) (T : Txt K w mg A) (c_l_answered : CalX P w K mg base 1 "_law_answered" (sp_l_answered K A)) : FnOk P w K mg base (L2.CX P w) 2 f fd ["_law_plan", "_law_ins", "_law_values"] (sp_l_settled K A) := by
  refine F.okX sc_l_settled (fun vs H Q E h => ?_) (fun cdv A_ outer s H vs Q E hr h => ?_)
  · obtain ⟨v, p, b, ins, c, bs, rfl, _⟩ := h; rfl
  · obtain ⟨v, p, b, ins, c, bs, rfl, ⟨a, g, rfl, hP, ws, hL, hR⟩, hv, hI, hin, hB, hs, q⟩ := h
    refine ⟨_, (pss_cons (ps_if (PW.pt (pw_or (pt_not (pt_val (pe_callB (c_isi K) (by rfl) T.n_isinstance (by decide +kernel) (pa_cons (pv 2) (pa_cons (pe_bltn (v := .ty "list") rfl T.n_list (by decide +kernel) rfl) pa_nil))))) (pw_or1 (pt_cmpR op_ne (pe_callB (c_len K) (by rfl) T.n_len PySem.boot_len (pa_cons (pv 2) pa_nil)) (pe_op op_add (pe_ix (ixT K) (pv 0) pe_int (fun _ _ => rfl)) (pe_callB (c_len K) (by rfl) T.n_len PySem.boot_len (pa_cons (pe_ix (ixT K) (pv 0) pe_int (fun _ _ => rfl)) pa_nil))) (nomark _))))) (pss_cons (ps_ret pe_bl) pss_nil) pss_nil) (pss_cons (ps_for (passes_of rfl) rfl (pi_range1 rfl T.n_range (pa_cons (pe_callB (c_len K) (by rfl) T.n_len PySem.boot_len (pa_cons (pv 2) pa_nil)) pa_nil)) (pg_name (i := 3) sc_l_settled.nd rfl (.inl rfl)) (pss_cons (ps_if (pt_not (pt_val (pe_callB (c_isi K) (by rfl) T.n_isinstance (by decide +kernel) (pa_cons (pe_ix (ixL K) (pv 2) (pv 3) (fun _ _ => rfl)) (pa_cons (pe_bltn (v := .ty "bool") rfl T.n_bool (by decide +kernel) rfl) pa_nil))))) (pss_cons (ps_ret pe_bl) pss_nil) pss_nil) (pss_cons (ps_set (i := 4) sc_l_settled.nd rfl (.inl rfl) pe_bl) (pss_cut (ps_if (pt_cmpR op_lt (pv 3) (pe_ix (ixT K) (pv 0) pe_int (fun _ _ => rfl)) (nomark _)) (pss_cons (ps_set (i := 4) sc_l_settled.nd rfl (.inl rfl) (pe_ix (ixL K) (pv 1) (pv 3) (fun _ _ => rfl))) pss_nil) (pss_cons (ps_set (i := 5) sc_l_settled.nd rfl (.inl rfl) (pe_ix (ixL K) (pe_ix (ixT K) (pv 0) pe_int (fun _ _ => rfl)) (pe_op op_sub (pv 3) (pe_ix (ixT K) (pv 0) pe_int (fun _ _ => rfl))) (fun _ _ => rfl))) (pss_cons (ps_set (i := 4) sc_l_settled.nd rfl (.inl rfl) (pe_cx c_l_answered hr (by decide) rfl (takes_of rfl rfl rfl rfl) (pa_cons (pe_ix (ixT K) (pv 5) pe_int (fun _ _ => rfl)) (pa_cons (pe_lc (own := [("_law_source", 6)]) (g := gName 6) (tt := tYes) rfl sc_l_settled.nd (pi_T K (pe_ix (ixT K) (pv 5) pe_int (fun _ _ => rfl))) (blkOk_by (own := [("_law_source", 6)]) (N := ["_law_plan", "_law_ins", "_law_values", "_law_line", "_law_due", "_law_gate", "_law_source"]) (sc := defScope s_l_settled) (by decide +kernel)) (fun _ _ _ _ _ => pg_name (i := 6) sc_l_settled.nd rfl (Or.inl rfl)) (fun _ _ _ _ _ => pts_nil) (fun _ _ _ _ _ => (pe_ix (ixL K) (pv 2) (pv 6) (fun _ _ => rfl)))) pa_nil)))) pss_nil))) (pss_cons (ps_if (pt_cmpR op_ne (pe_ix (ixL K) (pv 2) (pv 3) (fun _ _ => rfl)) (pv 4) (nomark _)) (pss_cons (ps_ret pe_bl) pss_nil) pss_nil) pss_nil))))) (pss_cons (ps_ret pe_bl) pss_nil))), ?_⟩
    try dsimp only [cxOf, Cx.blk]
    refine Go.start (σ := [some (.ref a), some (.ref b), some (.ref c), none, none, none, none]) ?_
    obtain ⟨m0, m60, n200, hgate⟩ := id hv
    have hwl := hR.1
    have hbl := hs.len
    have i0 : atI [V.int p.many, .ref g] 0 = some (.int p.many) := rfl
    have i1 : atI [V.int p.many, .ref g] 1 = some (.ref g) := rfl
    have hfl : ((bs.map V.bl).length : Int) = p.many + (ws.length : Int) := by rw [List.length_map, hbl]; unfold Plan.lines; omega
    refine go_when (b := !true || !decide (((bs.map V.bl).length : Int) = p.many + (ws.length : Int))) (et_or (et_not (et_B (ev_isi (ev_var rfl) ev_c (.ty _) (ty_list hB) (kit_ty (by decide +kernel))))) fun _ => et_test (ev_op (ev_len (ev_var rfl) hB) (ev_op (ev_op (ev_var rfl) ev_c (rv_ixT hP i0)) (ev_len (ev_op (ev_var rfl) ev_c (rv_ixT hP i1)) hL) rv_I0) rv_neI)) (fun h => ?_) (fun _ => ?_)
    · rw [decide_eq_true hfl] at h; cases h
    refine go_forR1 H (n := ((bs.map V.bl).length : Int)) (ea_cons (ev_len (ev_var rfl) hB) ea_nil) (by omega) (Ex.refl _) (fun k σ' G' => ∃ x y z, σ' = [some (.ref a), some (.ref b), some (.ref c), x, y, z, none]) ⟨none, none, none, rfl⟩ ?_ ?_
    · rintro k σ' G' k0 k1 e ⟨x, y, z, rfl⟩
      rw [List.length_map] at k1 hfl
      have hP2 := ex_t e hP
      have hL2 := ex_l e hL
      have hI2 := ex_l e hI
      have hB2 := ex_l e hB
      have hx : atI (bs.map V.bl) k = some (.bl (bs.getD k.toNat false)) := at_map V.bl bs false k0 k1
      refine go_when (b := !true) (et_not (et_B (ev_isi (ev_op (ev_var rfl) (ev_var rfl) (rv_ixL hB2 hx)) ev_c (.ty _) (.base (.bl _)) (kit_ty (by decide +kernel))))) (fun h => (by cases h)) (fun _ => ?_)
      refine go_asg ev_c ?_
      refine go_cut (fun σ' G5 => ∃ z', σ' = [some (.ref a), some (.ref b), some (.ref c), some (.int k), some (.bl (bs.getD k.toNat false)), z', none] ∧ G' = G5) (go_ifs (b := decide (k < p.many)) (et_test (ev_op (ev_var rfl) (ev_op (ev_var rfl) ev_c (rv_ixT hP2 i0)) rv_I0)) (fun h => ?_) (fun h => ?_)) ?_
      · have hk : k < p.many := of_decide_eq_true h
        refine go_asg (v := .bl (bs.getD k.toNat false)) ?_ (go_kn ⟨_, rfl, rfl⟩)
        rw [hs.ins k k0 hk]
        exact ev_op (ev_var rfl) (ev_var rfl) (rv_ixL hI2 (at_map V.bl ins false k0 (by omega)))
      · have hk : ¬ k < p.many := of_decide_eq_false h
        have l1 : k < p.lines := by unfold Plan.lines; omega
        obtain ⟨hg, hgm⟩ := gateN_get (p := p) (l := k) (by omega) l1
        have he := hgate _ hgm
        have hgs := hs.gat k (by omega) l1
        obtain ⟨w, hw, hGA⟩ := rows_get hR hg
        obtain ⟨ga, gs, rfl, hG, hS⟩ := hGA.mono e
        obtain ⟨_, hsr, _⟩ := gate_ok he
        have hz := gate_short he
        have ha := answer_gate he bs
        unfold ansF at hgs
        generalize gateN p k = gt at *
        have j0 : atI [V.str gt.kind, .ref gs, .int gt.delay] 0 = some (.str gt.kind) := rfl
        have j1 : atI [V.str gt.kind, .ref gs, .int gt.delay] 1 = some (.ref gs) := rfl
        have k2 : atI ws (k - p.many) = some (.ref ga) := by
          rw [show k - p.many = ((k - p.many).toNat : Int) by omega]; exact at_list hw
        refine go_asg (ev_op (ev_op (ev_var rfl) ev_c (rv_ixT hP2 i1)) (ev_op (ev_var rfl) (ev_op (ev_var rfl) ev_c (rv_ixT hP2 i0)) rv_I0) (rv_ixL hL2 k2)) ?_
        refine go_asg (v := .bl (bs.getD k.toNat false)) ?_ (go_kn ⟨_, rfl, rfl⟩)
        rw [hgs]
        refine ev_callP (eap_VL (v := .str gt.kind) (ev_op (ev_var rfl) ev_c (rv_ixT hG j0)) (el_bits (vs := bs) (a := c) (ev_op (ev_var rfl) ev_c (rv_ixT hG j1)) hS (by omega) hB2 (fun _ => rfl) (fun _ => rfl) (fun _ => rfl) fun x hx => by rw [hbl]; exact hsr x hx)) fun vs G' e h => ?_
        obtain ⟨r, rfl, hr⟩ := h
        exact sv_l_answered (sq_of hr) (by unfold bitsOf; rw [List.length_map]; omega) ha
      · rintro σ5 G5 ⟨z', rfl, rfl⟩
        refine go_when (b := !decide (bs.getD k.toNat false = bs.getD k.toNat false)) (et_test (ev_op (ev_op (ev_var rfl) (ev_var rfl) (rv_ixL hB2 hx)) (ev_var rfl) rv_neB)) (fun h => ?_) (fun _ => ?_)
        · rw [decide_eq_true rfl] at h; cases h
        exact go_kb e ⟨_, _, _, rfl⟩
    · rintro σ' G' e ⟨x, y, z, rfl⟩
      exact go_ret ev_c fun H1 e1 => q H1 (e.trans e1)

end

section
variable {P : Program} {w : World} {K : PySem.W.Frag} {mg : Str → Option Value} {base : Heap} {A : Ads}
def sp_law (K : PySem.W.Frag) (A : Ads) : Sp := fun vs H Q E => ∃ (a : Addr) (ns : List Int), vs = [.ref a] ∧ SqL K H a (ns.map V.int) ∧ ns.length ≤ 63 ∧ ∀ H', Q (.bl true) H'
theorem ok_law {f : Addr} {fd : FuncData} (F : Fun K "law" "law" s_law f fd) (T : Txt K w mg A) (c_l_plan_by : CalX P w K mg base 4 "_law_plan_by" (sp_l_plan_by K A)) (c_l_cell_at : CalX P w K mg base 1 "_law_cell_at" (sp_l_cell_at K A)) (c_l_mixed : CalX P w K mg base 1 "_law_mixed" (sp_l_mixed K A)) (c_l_refused : CalX P w K mg base 5 "_law_refused" (sp_l_refused K A)) (c_trimmed : CalX P w K mg base 4 "trimmed" (sp_trimmed K A)) (c_l_stays : CalX P w K mg base 1 "_law_stays" (sp_l_stays K A)) (c_l_numbers : CalX P w K mg base 2 "_law_numbers" (sp_l_numbers K A)) (c_l_same_plan : CalX P w K mg base 2 "_law_same_plan" (sp_l_same_plan K A)) (c_l_ringed : CalX P w K mg base 1 "_law_ringed" (sp_l_ringed K A)) (c_l_truths : CalX P w K mg base 2 "_law_truths" (sp_l_truths K A)) (c_settled : CalX P w K mg base 6 "settled" (sp_settled K A)) (c_l_settled : CalX P w K mg base 2 "_law_settled" (sp_l_settled K A)) : FnOk P w K mg base (L2.CX P w) 7 f fd ["_law_script"] (sp_law K A) := by
  refine F.okX sc_law (fun vs H Q E h => ?_) (fun cdv A_ outer s H vs Q E hr h => ?_)
  · obtain ⟨a, ns, rfl, _⟩ := h; rfl
  · obtain ⟨a, ns, rfl, hS, hlen, q⟩ := h
    refine ⟨_, (pss_cons (ps_set (i := 1) sc_law.nd rfl (.inl rfl) (pe_cx c_l_plan_by hr (by decide) rfl (takes_of rfl rfl rfl rfl) (pa_cons (pv 0) (pa_cons pe_int pa_nil)))) (pss_cons (ps_set (i := 2) sc_law.nd rfl (.inr rfl) (pe_op op_add (pe_ix (ixT K) (pv 1) pe_int (fun _ _ => rfl)) (pe_callB (c_len K) (by rfl) T.n_len PySem.boot_len (pa_cons (pe_ix (ixT K) (pv 1) pe_int (fun _ _ => rfl)) pa_nil)))) (pss_cons (ps_set (i := 3) sc_law.nd rfl (.inr rfl) (pe_cx c_l_cell_at hr (by decide) rfl (takes_of rfl rfl rfl rfl) (pa_cons (pv 0) (pa_cons pe_int pa_nil)))) (pss_cons (ps_set (i := 4) sc_law.nd rfl (.inl rfl) (pe_tup (pa_cons (pe_ix (ixT K) (pv 1) pe_int (fun _ _ => rfl)) (pa_cons (pe_callTy (c_list K) (by rfl) T.n_list (by decide +kernel) (pa_cons (pe_ix (ixT K) (pv 1) pe_int (fun _ _ => rfl)) pa_nil)) pa_nil)))) (pss_cons (ps_set (i := 5) sc_law.nd rfl (.inl rfl) (pe_lst pa_nil)) (pss_cut (ps_if (pt_cmpR op_gt (pv 2) pe_int (nomark _)) (pss_cons (ps_setLc (i := 5) (own := [("_law_k", 15)]) (g := gName 15) (tt := tYes) rfl sc_law.nd rfl rfl (sw_true rfl rfl rfl (by decide +kernel)) (pi_range1 rfl T.n_range (pa_cons (pe_op op_mod (pv 3) pe_int) pa_nil)) (blkOk_by (own := [("_law_k", 15)]) (N := ["_law_script", "_law_plan", "_law_lines", "_law_cell", "_law_asked", "_law_outs", "_law_handed", "_law_found", "_law_stays_here", "_law_gates", "_law_line", "_law_gate", "_law_ins", "_law_values", "_law_due", "_law_k", "_law_source"]) (sc := defScope s_law) (by decide +kernel)) (fun _ _ _ _ _ => pg_name (i := 15) sc_law.nd rfl (Or.inl rfl)) (fun _ _ _ _ _ => pts_nil) (fun _ _ _ _ _ => (pe_cx c_l_mixed hr (by decide) rfl takes0 (pa_cons (pv 3) (pa_cons (pv 15) (pa_cons (pv 2) pa_nil)))))) (pss_cut (ps_if (pt_cmpR op_eq (pe_op op_mod (pe_op op_fdiv (pv 3) pe_int) pe_int) pe_int (nomark _)) (pss_cons (ps_set (i := 5) sc_law.nd rfl (.inl rfl) (pe_op op_cat (pe_op op_cat (pv 5) (pe_slice (slL K) (pv 5) po_none (po_some pe_int))) (pe_lst (pa_cons pe_int pa_nil)))) pss_nil) pss_nil) (pss_cut (ps_if (pt_cmpR op_eq (pe_op op_mod (pe_op op_fdiv (pv 3) pe_int) pe_int) pe_int (nomark _)) (pss_cons (ps_setLc (i := 5) (own := [("_law_k", 15)]) (g := gName 15) (tt := tYes) rfl sc_law.nd rfl rfl (sw_true rfl rfl rfl (by decide +kernel)) (pi_range1 rfl T.n_range (pa_cons (pe_op op_mod (pe_op op_fdiv (pv 3) pe_int) pe_int) pa_nil)) (blkOk_by (own := [("_law_k", 15)]) (N := ["_law_script", "_law_plan", "_law_lines", "_law_cell", "_law_asked", "_law_outs", "_law_handed", "_law_found", "_law_stays_here", "_law_gates", "_law_line", "_law_gate", "_law_ins", "_law_values", "_law_due", "_law_k", "_law_source"]) (sc := defScope s_law) (by decide +kernel)) (fun _ _ _ _ _ => pg_name (i := 15) sc_law.nd rfl (Or.inl rfl)) (fun _ _ _ _ _ => pts_nil) (fun _ _ _ _ _ => (pe_cx c_l_mixed hr (by decide) rfl takes0 (pa_cons (pv 3) (pa_cons (pv 15) (pa_cons (pv 2) pa_nil)))))) pss_nil) pss_nil) pss_nil))) pss_nil) (pss_cons (ps_if (PW.pt (pw_or (pt_cmpR op_eq (pv 2) pe_int (nomark _)) (pw_or1 (pt_cmpR op_eq (pe_cx c_l_mixed hr (by decide) rfl (takes_of rfl rfl rfl rfl) (pa_cons (pv 3) (pa_cons pe_int (pa_cons pe_int pa_nil)))) pe_int (nomark _))))) (pss_cons (ps_expr (pe_bm PySem.F.plainAttrs_list PySem.F.slot_list_insert PySem.F.type_list_insert mt_insertS (pv 5) (pa_cons (pe_op op_mod (pv 3) (pe_op op_add (pe_callB (c_len K) (by rfl) T.n_len PySem.boot_len (pa_cons (pv 5) pa_nil)) pe_int)) (pa_cons (pe_ix (ixL K) (pe_lst (pa_cons (pe_un un_neg pe_int) (pa_cons (pv 2) (pa_cons (pe_op op_add (pv 2) (pe_op op_mod (pv 3) (pe_op op_pow pe_int pe_int))) pa_nil)))) (pe_op op_mod (pe_op op_fdiv (pv 3) pe_int) pe_int) (fun _ _ => rfl)) pa_nil)))) (pss_cons (ps_ret (pe_and (pe_cx c_l_refused hr (by decide) rfl (takes_of rfl rfl rfl rfl) (pa_cons (pv 4) (pa_cons (pv 5) pa_nil))) (pe_one (pe_cmpR (o_eqD K hr.units) (pv 4) (pv 1) (nomark _))))) pss_nil)) pss_nil) (pss_cons (ps_set (i := 6) sc_law.nd rfl (.inl rfl) (pe_callTy (c_list K) (by rfl) T.n_list (by decide +kernel) (pa_cons (pv 5) pa_nil))) (pss_cons (ps_set (i := 7) sc_law.nd rfl (.inl rfl) (pe_cx c_trimmed hr (by decide) rfl (takes_of rfl rfl rfl rfl) (pa_cons (pv 4) (pa_cons (pv 6) pa_nil)))) (pss_cons (ps_set (i := 8) sc_law.nd rfl (.inr rfl) (pe_cx c_l_stays hr (by decide) rfl (takes_of rfl rfl rfl rfl) (pa_cons (pv 1) (pa_cons (pv 5) pa_nil)))) (pss_cons (ps_if (PW.pt (pw_or (pt_not (pt_val (pe_callB (c_isi K) (by rfl) T.n_isinstance (by decide +kernel) (pa_cons (pv 7) (pa_cons (pe_bltn (v := .ty "tuple") rfl T.n_tuple (by decide +kernel) rfl) pa_nil))))) (pw_or (pt_cmpR op_ne (pe_callB (c_len K) (by rfl) T.n_len PySem.boot_len (pa_cons (pv 7) pa_nil)) pe_int (nomark _)) (pw_or1 (pt_not (pt_val (pe_cx c_l_numbers hr (by decide) rfl (takes_of rfl rfl rfl rfl) (pa_cons (pe_ix (ixT K) (pv 7) pe_int (fun _ _ => rfl)) (pa_cons (pv 8) pa_nil))))))))) (pss_cons (ps_ret pe_bl) pss_nil) pss_nil) (pss_cons (ps_set (i := 9) sc_law.nd rfl (.inl rfl) (pe_lst pa_nil)) (pss_cons (ps_for (passes_of rfl) rfl (pi_L K (pv 8)) (pg_name (i := 10) sc_law.nd rfl (.inl rfl)) (pss_cut (ps_if (pt_cmpR op_ge (pv 10) (pe_ix (ixT K) (pv 1) pe_int (fun _ _ => rfl)) (nomark _)) (pss_cons (ps_set (i := 11) sc_law.nd rfl (.inl rfl) (pe_ix (ixL K) (pe_ix (ixT K) (pv 1) pe_int (fun _ _ => rfl)) (pe_op op_sub (pv 10) (pe_ix (ixT K) (pv 1) pe_int (fun _ _ => rfl))) (fun _ _ => rfl))) (pss_cons (ps_expr (pe_bm PySem.F.plainAttrs_list PySem.F.slot_list_append PySem.F.type_list_append mt_append (pv 9) (pa_cons (pe_tup (pa_cons (pe_ix (ixT K) (pv 11) pe_int (fun _ _ => rfl)) (pa_cons (pe_callTy (c_tup K) (by rfl) T.n_tuple (by decide +kernel) (pa_cons (pe_lc (own := [("_law_source", 16)]) (g := gName 16) (tt := tYes) rfl sc_law.nd (pi_T K (pe_ix (ixT K) (pv 11) pe_int (fun _ _ => rfl))) (blkOk_by (own := [("_law_source", 16)]) (N := ["_law_script", "_law_plan", "_law_lines", "_law_cell", "_law_asked", "_law_outs", "_law_handed", "_law_found", "_law_stays_here", "_law_gates", "_law_line", "_law_gate", "_law_ins", "_law_values", "_law_due", "_law_k", "_law_source"]) (sc := defScope s_law) (by decide +kernel)) (fun _ _ _ _ _ => pg_name (i := 16) sc_law.nd rfl (Or.inl rfl)) (fun _ _ _ _ _ => pts_nil) (fun _ _ _ _ _ => (pe_bmK K PySem.F.plainAttrs_list PySem.F.slot_list_index PySem.F.type_list_index (mt_indexK K) (pv 8) (pa_cons (pv 16) pa_nil)))) pa_nil)) (pa_cons (pe_ix (ixT K) (pv 11) pe_int (fun _ _ => rfl)) pa_nil)))) pa_nil))) pss_nil)) pss_nil) pss_nil)) (pss_cons (ps_if (PW.pt (pw_or (pt_not (pt_val (pe_cx c_l_same_plan hr (by decide) rfl (takes_of rfl rfl rfl rfl) (pa_cons (pe_ix (ixT K) (pv 7) pe_int (fun _ _ => rfl)) (pa_cons (pe_tup (pa_cons (pe_ix (ixT K) (pv 1) pe_int (fun _ _ => rfl)) (pa_cons (pv 9) pa_nil))) pa_nil))))) (pw_or (pt_cmpR (o_neD K hr.units) (pv 6) (pv 5) (nomark _)) (pw_or1 (pt_cmpR (o_neD K hr.units) (pv 4) (pv 1) (nomark _)))))) (pss_cons (ps_ret pe_bl) pss_nil) pss_nil) (pss_cons (ps_expr (pe_bm PySem.F.plainAttrs_list PySem.F.slot_list_append PySem.F.type_list_append mt_append (pe_ix (ixT K) (pe_ix (ixT K) (pv 7) pe_int (fun _ _ => rfl)) pe_int (fun _ _ => rfl)) (pa_cons pe_non pa_nil))) (pss_cons (ps_if (PW.pt (pw_or (pt_cmpR (o_neD K hr.units) (pv 4) (pv 1) (nomark _)) (pw_or1 (pt_val (pe_cx c_l_ringed hr (by decide) rfl (takes_of rfl rfl rfl rfl) (pa_cons (pv 1) pa_nil)))))) (pss_cons (ps_ret (pe_cmpR (o_eqD K hr.units) (pv 4) (pv 1) (nomark _))) pss_nil) pss_nil) (pss_cons (ps_set (i := 12) sc_law.nd rfl (.inl rfl) (pe_cx c_l_truths hr (by decide) rfl (takes_of rfl rfl rfl rfl) (pa_cons (pe_cx c_l_cell_at hr (by decide) rfl (takes_of rfl rfl rfl rfl) (pa_cons (pv 0) (pa_cons pe_int pa_nil))) (pa_cons (pe_ix (ixT K) (pv 1) pe_int (fun _ _ => rfl)) pa_nil)))) (pss_cons (ps_set (i := 13) sc_law.nd rfl (.inr rfl) (pe_cx c_settled hr (by decide) rfl (takes_of rfl rfl rfl rfl) (pa_cons (pv 1) (pa_cons (pv 12) pa_nil)))) (pss_cons (ps_setLc (i := 14) (own := [("_law_line", 10)]) (g := gName 10) (tt := tYes) rfl sc_law.nd rfl rfl (sw_true rfl rfl rfl (by decide +kernel)) (pi_L K (pv 8)) (blkOk_by (own := [("_law_line", 10)]) (N := ["_law_script", "_law_plan", "_law_lines", "_law_cell", "_law_asked", "_law_outs", "_law_handed", "_law_found", "_law_stays_here", "_law_gates", "_law_line", "_law_gate", "_law_ins", "_law_values", "_law_due", "_law_k", "_law_source"]) (sc := defScope s_law) (by decide +kernel)) (fun _ _ _ _ _ => pg_name (i := 10) sc_law.nd rfl (Or.inl rfl)) (fun _ _ _ _ _ => pts_nil) (fun _ _ _ _ _ => (pe_ix (ixL K) (pv 13) (pv 10) (fun _ _ => rfl)))) (pss_cons (ps_ret (pe_and (pe_cx c_l_settled hr (by decide) rfl (takes_of rfl rfl rfl rfl) (pa_cons (pv 1) (pa_cons (pv 12) (pa_cons (pv 13) pa_nil)))) (pe_one (pe_cmpR (o_eqD K hr.units) (pe_cx c_settled hr (by decide) rfl (takes_of rfl rfl rfl rfl) (pa_cons (pe_tup (pa_cons (pe_ix (ixT K) (pv 1) pe_int (fun _ _ => rfl)) (pa_cons (pv 9) pa_nil))) (pa_cons (pv 12) pa_nil))) (pv 14) (nomark _))))) pss_nil)))))))))))))))))))), ?_⟩
    try dsimp only [cxOf, Cx.blk]
    refine Go.start (σ := [some (.ref a), none, none, none, none, none, none, none, none, none, none, none, none, none, none, none, none]) ?_
    obtain ⟨hv, hstr⟩ := planBy_ok (ns := ns) (most := 60) hlen (by decide) (by decide)
    refine go_asgP (ep_call (vs := [.ref a, .int 60]) (ea_cons (ev_var rfl) (ea_cons ev_c ea_nil)) (sg_plan_by hS hlen (by decide) (by decide))) fun v G1 e1 hp => ?_
    generalize planBy ns 60 = p at *
    obtain ⟨m0, m60, n200, hgate⟩ := id hv
    have hS1 := ex_l e1 hS
    have hp1 := id hp
    obtain ⟨pa, pg, rfl, hP, ws, hL, hR⟩ := hp
    have hwl := hR.1
    have i0 : atI [V.int p.many, .ref pg] 0 = some (.int p.many) := rfl
    have i1 : atI [V.int p.many, .ref pg] 1 = some (.ref pg) := rfl
    have hln : p.many + (ws.length : Int) = p.lines := by unfold Plan.lines; rw [hwl]
    have hl0 : 0 ≤ p.lines := by omega
    have hl1 : p.lines ≤ 260 := by omega
    refine go_asg (v := .int p.lines) (by rw [← hln]; exact ev_op (ev_op (ev_var rfl) ev_c (rv_ixT hP i0)) (ev_len (ev_op (ev_var rfl) ev_c (rv_ixT hP i1)) hL) rv_I0) ?_
    refine go_asg (v := .int (cell ns 2)) (by walk_at "ev") ?_
    generalize cell ns 2 = c
    refine go_asgP (ep_plan (p := p) (ev_op (ev_var rfl) ev_c (rv_ixT hP i0)) (el_list (ev_op (ev_var rfl) ev_c (rv_ixT hP i1)) hL) hR) fun va G2 e2 ha => ?_
    have hp2 := hp1.mono e2
    have hS2 := ex_l e2 hS1
    have hP2 := ex_t e2 hP
    have evE : ∀ (τ : L2.St) (G : Hp), Ex G2 G → τ[4]? = some (some va) → τ[1]? = some (some (.ref pa)) → Ev (tOp (rEqD K) (tVar 4) (tVar 1)) τ G (.bl true) := fun τ G e h3 h1 => ev_op (ev_var h3) (ev_var h1) (rv_eqD (ha.mono e).dp (hp2.mono e).dp (planD_shaped hstr))
    have evN : ∀ (τ : L2.St) (G : Hp), Ex G2 G → τ[4]? = some (some va) → τ[1]? = some (some (.ref pa)) → Ev (tOp (rNeD K) (tVar 4) (tVar 1)) τ G (.bl false) := fun τ G e h3 h1 => ev_op (ev_var h3) (ev_var h1) (rv_neD (ha.mono e).dp (hp2.mono e).dp (planD_shaped hstr))
    -- outs
    refine go_asgL (el_lst ea_nil (Nat.zero_le _)) fun po0 hpo0 => ?_
    have hmx : ∀ (n : Int) (o : Int), o ∈ (List.range n.toNat).map (fun k : Nat => mixed c (k : Int) p.lines) → 0 < p.lines → 0 ≤ o ∧ o < p.lines := fun n o ho hl => by
      obtain ⟨k, _, rfl⟩ := List.mem_map.mp ho
      exact mixed_in hl
    have hcomp : ∀ (τ : L2.St) (G : Hp) (ta : TA) (n : Int), EvA ta τ G [.int n] → 0 ≤ n ∧ n ≤ 200 → (∀ x, wipe ((wipe τ [15]).set 15 (some x)) [15] = wipe τ [15]) → (∀ x, ((wipe τ [15]).set 15 (some x))[3]? = some (some (.int c)) ∧ ((wipe τ [15]).set 15 (some x))[2]? = some (some (.int p.lines)) ∧ ((wipe τ [15]).set 15 (some x))[15]? = some (some x)) → 0 < p.lines →
        EvL (tLc (iRng1 ta) (gName 15) tYes (tCallS (sp_l_mixed K A) (WE fun _ _ _ _ => False) (tCons (tVar 3) (tCons (tVar 15) (tCons (tVar 2) tNil)))) [15]) τ G (((List.range n.toNat).map fun k : Nat => mixed c (k : Int) p.lines).map V.int) := fun τ G ta n h hn hw hx hl => by
      rw [List.map_map]
      exact el_lcR (n := n) (fun k => .int (mixed c k p.lines)) h (by omega) hw fun k k0 k1 => ev_callS (ea_cons (ev_var (hx _).1) (ea_cons (ev_var (hx _).2.2) (ea_cons (ev_var (hx _).2.1) ea_nil))) (sv_mixed hl)
    refine go_cut (fun σ' G' => ∃ po outs, σ' = [some (.ref a), some (.ref pa), some (.int p.lines), some (.int c), some va, some (.ref po), none, none, none, none, none, none, none, none, none, none, none] ∧ Ex G2 G' ∧ G2 po = none ∧ G' po = some (.lst ((outs : List Int).map V.int)) ∧ outs.length ≤ 200 ∧ ∀ o ∈ outs, 0 ≤ o ∧ o < p.lines) (go_ifs (b := decide (p.lines > 0)) (et_test (ev_op (ev_var rfl) ev_c rv_I0)) (fun h => ?_) (fun h => ?_)) ?_
    · have hl : 0 < p.lines := of_decide_eq_true h
      have c5 : 0 ≤ c % 5 ∧ c % 5 < 5 := by omega
      refine go_asgL (hcomp _ _ _ (c % 5) (ea_cons (ev_op (ev_var rfl) ev_c (rv_I (by decide))) ea_nil) (by omega) (fun _ => rfl) (fun _ => ⟨rfl, rfl, rfl⟩) hl) fun p1 hp1' => ?_
      have hin1 := fun o ho => hmx (c % 5) o ho hl
      have hl1' : ((List.range (c % 5).toNat).map fun k : Nat => mixed c (k : Int) p.lines).length ≤ 5 := by rw [List.length_map, List.length_range]; omega
      generalize ((List.range (c % 5).toNat).map fun k : Nat => mixed c (k : Int) p.lines) = o1 at *
      have e3 : Ex G2 (upd (upd G2 po0 (.lst [])) p1 (.lst (o1.map V.int))) := (Ex.new hpo0).trans (Ex.new hp1')
      have h13 : (upd (upd G2 po0 (.lst [])) p1 (.lst (o1.map V.int))) p1 = some (.lst (o1.map V.int)) := upd_same
      have hp10 := (Ex.new (o := .lst []) hpo0).none hp1'
      generalize upd (upd G2 po0 (.lst [])) p1 (.lst (o1.map V.int)) = G3 at *
      refine go_cut (fun σ' G' => ∃ po outs, σ' = [some (.ref a), some (.ref pa), some (.int p.lines), some (.int c), some va, some (.ref po), none, none, none, none, none, none, none, none, none, none, none] ∧ Ex G2 G' ∧ G2 po = none ∧ G' po = some (.lst ((outs : List Int).map V.int)) ∧ outs.length ≤ 200 ∧ ∀ o ∈ outs, 0 ≤ o ∧ o < p.lines) (go_ifs (b := decide (c / 5 % 2 = 1)) (et_test (ev_op (ev_op (ev_op (ev_var rfl) ev_c (rv_I ⟨by decide, by decide⟩)) ev_c (rv_I (by decide))) ev_c rv_eqI)) (fun h => ?_) (fun h => ?_)) ?_
      · have h4 : SqL K G3 p1 (o1.map V.int) := sq_of h13
        have hcut : cutV (o1.map V.int) none (some 1) = (o1.take 1).map V.int := by
          cases o1 with
          | nil => rfl
          | cons x r => rfl
        refine go_asgL (xs := (o1 ++ o1.take 1 ++ [0]).map V.int) ?_ fun p2 hp2' => ?_
        · simp only [List.map_append]
          exact el_catN (el_catV (ev_var rfl) h13 (by rw [← hcut]; exact el_sl (ev_var rfl) eo_none (eo_some ev_c) h4) (by rw [List.length_map, List.length_map, List.length_take]; omega)) (el_lst (ea_cons ev_c ea_nil) (by show 1 ≤ 100000; decide)) (by simp only [List.length_append, List.length_map, List.length_take]; show _ + 1 ≤ 100000; omega)
        · refine go_kn ⟨p2, _, rfl, e3.trans (Ex.new hp2'), e3.none hp2', upd_same, by simp only [List.length_append, List.length_take, List.length_cons, List.length_nil]; omega, fun o ho => ?_⟩
          rcases List.mem_append.mp ho with ho | ho
          · rcases List.mem_append.mp ho with ho | ho
            · exact hin1 o ho
            · exact hin1 o (List.mem_of_mem_take ho)
          · rw [List.mem_singleton.mp ho]; exact ⟨Int.le_refl _, hl⟩
      · exact go_kn ⟨p1, o1, rfl, e3, hp10, h13, by omega, hin1⟩
      rintro σ4 G4 ⟨p4, o4, rfl, e4, hp40, h44, hl4, hin4⟩
      refine go_cutN (go_ifs (b := decide (c / 10 % 8 = 1)) (et_test (ev_op (ev_op (ev_op (ev_var rfl) ev_c (rv_I ⟨by decide, by decide⟩)) ev_c (rv_I (by decide))) ev_c rv_eqI)) (fun h => ?_) (fun h => ?_))
      · have c9 : 0 ≤ c / 80 % 120 ∧ c / 80 % 120 < 120 := by omega
        refine go_asgL (hcomp _ _ _ (c / 80 % 120) (ea_cons (ev_op (ev_op (ev_var rfl) ev_c (rv_I ⟨by decide, by decide⟩)) ev_c (rv_I (by decide))) ea_nil) (by omega) (fun _ => rfl) (fun _ => ⟨rfl, rfl, rfl⟩) hl) fun p5 hp5 => ?_
        exact go_kn ⟨p5, _, rfl, e4.trans (Ex.new hp5), e4.none hp5, upd_same, by rw [List.length_map, List.length_range]; omega, fun o ho => hmx _ o ho hl⟩
      · exact go_kn ⟨p4, o4, rfl, e4, hp40, h44, hl4, hin4⟩
    · exact go_kn ⟨po0, [], rfl, Ex.new hpo0, hpo0, upd_same, Nat.zero_le _, fun o ho => by cases ho⟩
    rintro σ3 G3 ⟨po, outs, rfl, e3, hpo, ho3, holn, hoin⟩
    have hO3 : SqL K G3 po (outs.map V.int) := sq_of ho3
    have w9 := mixed_in (c := c) (k := 6) (m := 9) (by decide)
    refine go_when (b := decide (p.lines = 0) || decide (mixed c 6 9 = 1)) (et_or (et_test (ev_op (ev_var rfl) ev_c rv_eqI)) fun _ => et_test (ev_op (ev_callS (ea_cons (ev_var rfl) (ea_cons ev_c (ea_cons ev_c ea_nil))) (sv_mixed (by decide))) ev_c rv_eqI)) (fun h => ?_) (fun h => ?_)
    · -- what is no line
      have hN : (0 : Int) < 10 ^ (20 : Int).toNat := by decide
      obtain ⟨x, hx, hxn⟩ : ∃ x, atI ([-1, p.lines, p.lines + c % 10 ^ (20 : Int).toNat].map V.int) (c / 45 % 3) = some (.int x) ∧ ¬ (0 ≤ x ∧ x < p.lines) := by
        have hmn := Int.emod_nonneg c (show (10 : Int) ^ (20 : Int).toNat ≠ 0 by decide)
        generalize c % 10 ^ (20 : Int).toNat = y at *
        have h3 : c / 45 % 3 = 0 ∨ c / 45 % 3 = 1 ∨ c / 45 % 3 = 2 := by omega
        rcases h3 with h3 | h3 | h3 <;> rw [h3]
        · exact ⟨-1, rfl, by omega⟩
        · exact ⟨p.lines, rfl, by omega⟩
        · exact ⟨p.lines + y, rfl, by omega⟩
      have hol : ((outs.map V.int).length : Int) = (outs.length : Int) := by rw [List.length_map]
      have hj0 := Int.emod_nonneg c (show (outs.length : Int) + 1 ≠ 0 by omega)
      have hj1 := Int.emod_lt_of_pos c (show (0 : Int) < (outs.length : Int) + 1 by omega)
      refine go_insert (l := po) (xs := outs.map V.int) (i := c % ((outs.length : Int) + 1)) (v := .int x) (ev_var rfl) ho3 (by rw [← hol]; exact ev_op (ev_var rfl) (ev_op (ev_len (ev_var rfl) hO3) ev_c rv_I0) (rv_I (by show (0 : Int) < _; omega))) (ev_ixLit (el_lst (ea_cons (ev_un ev_c ru_neg) (ea_cons (ev_var rfl) (ea_cons (ev_op (ev_var rfl) (ev_op (ev_var rfl) (ev_op ev_c ev_c (rv_I ⟨by decide, by decide, by decide⟩)) (rv_I hN)) rv_I0) ea_nil))) (by show 3 ≤ 100000; decide)) (ev_op (ev_op (ev_var rfl) ev_c (rv_I ⟨by decide, by decide⟩)) ev_c (rv_I (by decide))) (by exact hx)) (by rw [List.length_map]; omega) hj0 (by omega) ?_
      generalize (c % ((outs.length : Int) + 1)).toNat = j
      have e4 : Ex G2 (upd G3 po (.lst ((outs.map V.int).take j ++ [V.int x] ++ (outs.map V.int).drop j))) := Ex.mut e3 hpo
      have hO4 : SqL K (upd G3 po (.lst ((outs.map V.int).take j ++ [V.int x] ++ (outs.map V.int).drop j))) po ((outs.take j ++ [x] ++ outs.drop j).map V.int) := by
        refine sq_of ?_
        rw [upd_same]
        simp only [List.map_append, List.map_take, List.map_drop]
        rfl
      exact go_ret (v := .bl (true && true)) (ev_andV (ev_callS (ea_cons (ev_var rfl) (ea_cons (ev_var rfl) ea_nil)) (sv_refused (ha.mono e4) hv hO4 (by simp only [List.length_append, List.length_take, List.length_drop, List.length_cons, List.length_nil]; omega) ⟨x, List.mem_append_left _ (List.mem_append_right _ (List.mem_singleton.mpr rfl)), hxn⟩)) fun _ => evE _ _ e4 rfl rfl) fun H1 _ => q H1
    refine go_asgL (el_list (ev_var rfl) hO3) fun ph hph => ?_
    have e4 : Ex G3 (upd G3 ph (.lst (outs.map V.int))) := Ex.new hph
    have hH4 : SqL K (upd G3 ph (.lst (outs.map V.int))) ph (outs.map V.int) := sq_of upd_same
    generalize upd G3 ph (.lst (outs.map V.int)) = G4 at *
    have hO4 := ex_l e4 hO3
    have e24 := e3.trans e4
    refine go_asgP (ep_call (ea_cons (ev_var rfl) (ea_cons (ev_var rfl) ea_nil)) (sg_trimmed (ha.mono e24) hH4 (by omega) (trimR_ok hv hoin))) fun vf G5 e5 hf => ?_
    obtain ⟨H0, e50, e51, t, pl, st, gl, gw, rfl, ht, hpl, hgl0, hgl, hGR, hst0, hst, ngs⟩ := hf
    -- base: what stood ahead of found
    have b2 : Ex G2 H0 := e24.trans e50
    refine go_asgL (el_callS (ea_cons (ev_var rfl) (ea_cons (ev_var rfl) ea_nil)) (sl_stays (hp2.mono (b2.trans e51)) hv (ex_l e5 hO4) hoin (by omega))) fun ps hps => ?_
    have nps : ps ≠ gl := fun h => by rw [h, hgl] at hps; cases hps
    have e6 : Ex G5 (upd G5 ps (.lst ((keptL p outs).map V.int))) := Ex.new hps
    have hS6 : (upd G5 ps (.lst ((keptL p outs).map V.int))) ps = some (.lst ((keptL p outs).map V.int)) := upd_same
    generalize upd G5 ps (.lst ((keptL p outs).map V.int)) = G6 at *
    have hK6 : SqL K G6 ps ((keptL p outs).map V.int) := sq_of hS6
    have hst6 : SqL K G6 st ((keptL p outs).map V.int) := sq_of (e6 _ _ hst)
    have hKl := keptL_len p outs
    have j0 : atI [V.ref pl, .ref st] 0 = some (.ref pl) := rfl
    have j1 : atI [V.ref pl, .ref st] 1 = some (.ref st) := rfl
    have ht6 := ex_t e6 ht
    have hpl6 := ex_t e6 hpl
    refine go_when (b := !true || (!decide ((([V.ref pl, .ref st] : List V).length : Int) = 2) || !true)) (et_or (et_not (et_B (ev_isi (ev_var rfl) ev_c (.ty _) (ty_tuple ht6) (kit_ty (by decide +kernel))))) fun _ => et_or (et_test (ev_op (ev_lenT (ev_var rfl) ht6) ev_c rv_neI)) fun _ => et_not (et_B (ev_callS (ea_cons (ev_op (ev_var rfl) ev_c (rv_ixT ht6 j1)) (ea_cons (ev_var rfl) ea_nil)) (sv_numbers hst6 hK6 (by omega))))) (fun h => (by cases h)) (fun _ => ?_)
    have b26 : Ex G2 G6 := (b2.trans e51).trans e6
    refine go_asgL (el_lst ea_nil (Nat.zero_le _)) fun pq hpq => ?_
    have hpq6 := hpq
    have npq : pq ≠ gl := fun h => by rw [h, e6 _ _ hgl] at hpq; cases hpq
    have nsq : ps ≠ pq := fun h => by rw [← h, hS6] at hpq; cases hpq
    have hKn := keptL_nodup p outs
    have hKm := fun l => mem_keptL (outs := outs) hv hoin (l := l)
    refine go_forL G6 (ev_var rfl) (Ex.new hpq) hK6 (fun i σ' G' => ∃ x y gq, σ' = [some (.ref a), some (.ref pa), some (.int p.lines), some (.int c), some va, some (.ref po), some (.ref ph), some (.ref t), some (.ref ps), some (.ref pq), x, y, none, none, none, none, none] ∧ G' pq = some (.lst gq) ∧ Rows (GateAt K G') gq ((((keptL p outs).take i).filter fun l => decide (l ≥ p.many)).map fun l => trimG (keptL p outs) (gateN p l))) ⟨_, _, [], rfl, upd_same, by rw [List.take_zero]; exact rows_nil⟩ ?_ ?_
    · rintro i x σ' G' hx e7 ⟨x6, y6, gq, rfl, hg6, hR6⟩
      rw [List.getElem?_map] at hx
      cases hl : (keptL p outs)[i]? with
      | none => rw [hl] at hx; cases hx
      | some l =>
        rw [hl] at hx
        cases hx
        have hlk := (hKm l).mp (List.mem_of_getElem? hl)
        have hlr := hlk.range hv hoin
        have htk : (((keptL p outs).take (i + 1)).filter fun l => decide (l ≥ p.many)) = ((keptL p outs).take i).filter (fun l => decide (l ≥ p.many)) ++ (if l ≥ p.many then [l] else []) := by
          rw [List.take_add_one, hl, List.filter_append]
          congr 1
          by_cases c : l ≥ p.many
          · rw [if_pos c]; simp [c]
          · rw [if_neg c]; simp [c]
        have hP7 := ex_t (b26.trans e7) hP2
        have hK7 := ex_l e7 hK6
        refine go_cutN (go_ifs (b := decide (l ≥ p.many)) (et_test (ev_op (ev_var rfl) (ev_op (ev_var rfl) ev_c (rv_ixT hP7 i0)) rv_I0)) (fun hb => ?_) (fun hb => ?_))
        · have lm : l ≥ p.many := of_decide_eq_true hb
          rw [if_pos lm] at htk
          obtain ⟨hg, hgm⟩ := gateN_get (p := p) (l := l) lm hlr.2
          obtain ⟨wv, hwv, hGA⟩ := rows_get hR hg
          obtain ⟨ga, gs, rfl, hG, hSs⟩ := hGA.mono (e2.trans (b26.trans e7))
          have hz := gate_short (hgate _ hgm)
          have hsk : ∀ s ∈ (gateN p l).srcs, s ∈ keptL p outs := fun s hs => (hKm s).mpr (.src hlk lm hlr.2 hs)
          have ht := show ∀ gt, gt = gateN p l → (((keptL p outs).take (i + 1)).filter fun l => decide (l ≥ p.many)).map (fun l => trimG (keptL p outs) (gateN p l)) = (((keptL p outs).take i).filter (fun l => decide (l ≥ p.many))).map (fun l => trimG (keptL p outs) (gateN p l)) ++ [trimG (keptL p outs) gt] from fun gt h => by
            rw [htk, List.map_append, h]; rfl
          have ht := ht _ rfl
          generalize gateN p l = gt at *
          have k0 : atI [V.str gt.kind, .ref gs, .int gt.delay] 0 = some (.str gt.kind) := rfl
          have k1 : atI [V.str gt.kind, .ref gs, .int gt.delay] 1 = some (.ref gs) := rfl
          have k2 : atI [V.str gt.kind, .ref gs, .int gt.delay] 2 = some (.int gt.delay) := rfl
          have k3 : atI ws (l - p.many) = some (.ref ga) := by
            rw [show l - p.many = ((l - p.many).toNat : Int) by omega]; exact at_list hwv
          refine go_asg (v := .ref ga) (ev_op (ev_op (ev_var rfl) ev_c (rv_ixT hP7 i1)) (ev_op (ev_var rfl) (ev_op (ev_var rfl) ev_c (rv_ixT hP7 i0)) rv_I0) (rv_ixL (ex_l (e2.trans (b26.trans e7)) hL) k3)) ?_
          refine go_appP (l := pq) (xs := gq) (ev_var rfl) hg6 (ep_gate (K := K) (z := gt.kind) (ss := gt.srcs.map (plIn (keptL p outs))) (d := gt.delay) (ev_op (ev_var rfl) ev_c (rv_ixT hG k0)) (eu_tupNL (K := K) ?_) (ev_op (ev_var rfl) ev_c (rv_ixT hG k2))) (by
            have := hR6.1
            rw [List.length_map] at this
            have h3 := List.length_filter_le (fun l => decide (l ≥ p.many)) ((keptL p outs).take i)
            rw [List.length_take] at h3
            omega) fun v7 G7 e8 hg7 => ?_
          · rw [List.map_map]
            refine el_lcTA gt.srcs V.int _ (ev_op (ev_var rfl) ev_c (rv_ixT hG k1)) hSs (by omega) (fun _ => rfl) fun s hs => ?_
            have h1 := idxOf_get hKn (hsk s hs)
            exact ev_index (z := .int s) (ev_var rfl) hK7 (ev_var rfl) rfl (flat_ints _) (by rw [List.getElem?_map, h1]; rfl) (by show (s == s) = true; simp) fun m z hm hz => by
              rw [List.getElem?_map] at hz
              cases hb : (keptL p outs)[m]? with
              | none => rw [hb] at hz; cases hz
              | some b =>
                rw [hb] at hz
                cases hz
                show (b == s) = false
                have : ¬ b = s := fun h => by
                  subst h
                  have := idxOf_at hKn hb
                  omega
                simpa using this
          · have hg7' := e8 _ _ hg6
            refine go_kb (Ex.mut (e7.trans e8) hpq) ⟨_, _, gq ++ [v7], rfl, upd_same, ?_⟩
            rw [ht]
            exact rows_snoc (gates_put hR6 e8 hg7') (hg7.put hg7')
        · have lm : ¬ l ≥ p.many := of_decide_eq_false hb
          rw [if_neg lm, List.append_nil] at htk
          exact go_kb e7 ⟨_, _, gq, rfl, hg6, by rw [htk]; exact hR6⟩
    · rintro σ' G7 e7 ⟨x6, y6, gq, rfl, hg7, hR7⟩
      rw [List.length_map, List.take_length] at hR7
      have hR7 : Rows (GateAt K G7) gq (trimP p outs).gates := hR7
      have b27 := b26.trans e7
      have hTv := trim_valid hv hoin
      have hTs := trim_str hv hoin hstr
      have hTn : ∀ g ∈ (trimP p outs).gates, g.srcs.length ≤ 4000 := fun g hg => by have := gate_short (hTv.gate g hg); omega
      have ht7 := ex_t e7 ht6
      have hpl7 : PlanAt K G7 (.ref pl) (trimP p outs) := ⟨pl, gl, rfl, ex_t e7 hpl6, gw, sq_of (e7 _ _ (e6 _ _ hgl)), rows_imp hGR fun _ _ r => r.mono (e6.trans e7)⟩
      have hP7 := ex_t b27 hP2
      have tupP : ∀ (τ : L2.St) (G : Hp), SqT K G pa [.int p.many, .ref pg] → τ[1]? = some (some (.ref pa)) → τ[9]? = some (some (.ref pq)) → G pq = some (.lst gq) → Rows (GateAt K G) gq (trimP p outs).gates → EvP (tTup (tCons (tOp (rIxT K) (tVar 1) (tC (.int 0))) (tCons (tVar 9) tNil))) τ G fun v G' => PlanAt K G' v (trimP p outs) := fun τ G hp t1 t9 hq hr =>
        (ep_U (eu_tup (ea_cons (ev_op (ev_var t1) ev_c (rv_ixT hp i0)) (ea_cons (ev_var t9) ea_nil)) (by show 2 ≤ 100000; decide))).imp fun v G' e ⟨x, hv, hx, hG⟩ => by
          subst hG
          exact ⟨x, pq, hv, st_of upd_same, gq, sq_of (e _ _ hq), rows_imp hr fun _ _ r => r.mono e⟩
      refine go_when (b := !true || (false || false)) (et_or (et_not (et_B (ev_callP (A := fun vs G' => ∃ v, vs = [.ref pl, v] ∧ PlanAt K G' v (trimP p outs)) ((eap_ev (ev_op (ev_var rfl) ev_c (rv_ixT ht7 j0)) (eap_p (tupP _ _ hP7 rfl rfl hg7 hR7) fun v G' e h => ea_nil)).imp fun vs G' e ⟨vs1, h1, v, h2, h3⟩ => ⟨v, by rw [h1, h2], h3⟩) fun vs G' e h => ?_))) fun _ => et_or (et_test (ev_op (ev_var rfl) (ev_var rfl) (rv_neD (dp_ints (ex_l ((e5.trans e6).trans e7) hH4)) (dp_ints (ex_l ((e5.trans e6).trans e7) hO4)) (shaped_ints _)))) fun _ => et_test (evN _ _ b27 rfl rfl)) (fun h => (by cases h)) (fun _ => ?_)
      · obtain ⟨v, rfl, hv2⟩ := h
        exact sv_same_plan (hpl7.mono e) hv2 hTs (by have := hTv.n200; omega) hTn
      -- found's list is written to
      have hgl7 := e7 _ _ (e6 _ _ hgl)
      have j9 : atI [V.int (trimP p outs).many, .ref gl] 1 = some (.ref gl) := rfl
      refine go_app (l := gl) (xs := gw) (v := .non) (ev_op (ev_op (ev_var rfl) ev_c (rv_ixT ht7 j0)) ev_c (rv_ixT (ex_t e7 hpl6) j9)) hgl7 ev_c (by have h1 : gw.length = (trimP p outs).gates.length := hGR.1; have := hTv.n200; omega) ?_
      have b8 : Ex H0 (upd G7 gl (.lst (gw ++ [.non]))) := Ex.mut ((e51.trans e6).trans e7) hgl0
      have hS8 : (upd G7 gl (.lst (gw ++ [.non]))) ps = some (.lst ((keptL p outs).map V.int)) := by rw [upd_ne nps]; exact e7 _ _ hS6
      have hq8 : (upd G7 gl (.lst (gw ++ [.non]))) pq = some (.lst gq) := by rw [upd_ne npq]; exact hg7
      have hR8 : Rows (GateAt K (upd G7 gl (.lst (gw ++ [.non])))) gq (trimP p outs).gates := gates_put hR7 (Ex.refl _) hgl7
      generalize upd G7 gl (.lst (gw ++ [.non])) = G8 at *
      have b28 := b2.trans b8
      have hp8 := hp2.mono b28
      refine go_when (b := false || ringedB p) (et_or (et_test (evN _ _ b28 rfl rfl)) fun _ => et_B (ev_callS (ea_cons (ev_var rfl) ea_nil) (sv_ringed hp8 hv))) (fun _ => ?_) (fun h => ?_)
      · exact go_ret (evE _ _ b28 rfl rfl) fun H1 _ => q H1
      have hr2 : ringedB p = false := by simpa using h
      have hS8' := ex_l b28 hS2
      have hP8 := ex_t b28 hP2
      refine go_asgL (el_callS (vs := [.int (cell ns 1), .int p.many]) (ea_cons (by walk_at "ev") (ea_cons (ev_op (ev_var rfl) ev_c (rv_ixT hP8 i0)) ea_nil)) (sl_truths m0 (by omega))) fun pi hpi => ?_
      have hil := truthsM_len (c := cell ns 1) m0
      generalize truthsM (cell ns 1) p.many = ins at *
      have e9 : Ex G8 (upd G8 pi (.lst (ins.map V.bl))) := Ex.new hpi
      have hI9 : SqL K (upd G8 pi (.lst (ins.map V.bl))) pi (ins.map V.bl) := sq_of upd_same
      generalize upd G8 pi (.lst (ins.map V.bl)) = G9 at *
      have ho := order_of_free hv hr2
      have hso := settled_ok ho hil
      have hsl := settle_solves ho hil
      have htr := trim_settled (outs := outs) hv hoin hr2 hil
      generalize settleBy p ins (goneM p).1 = se at *
      have hsel := hsl.len
      refine go_asgL (el_callS (vs := [.ref pa, .ref pi]) (ea_cons (ev_var rfl) (ea_cons (ev_var rfl) ea_nil)) (sl_settled (hp8.mono e9) hI9 (by omega) hso)) fun pv hpv => ?_
      have e10 : Ex G9 (upd G9 pv (.lst (se.map V.bl))) := Ex.new hpv
      have hV10 : SqL K (upd G9 pv (.lst (se.map V.bl))) pv (se.map V.bl) := sq_of upd_same
      generalize upd G9 pv (.lst (se.map V.bl)) = G10 at *
      have hK10 : SqL K G10 ps ((keptL p outs).map V.int) := sq_of (e10 _ _ (e9 _ _ hS8))
      refine go_asgL (xs := ((keptL p outs).map fun l => se.getD l.toNat false).map V.bl) ?_ fun pd hpd => ?_
      · rw [List.map_map]
        refine el_lcA (keptL p outs) V.int _ (ev_var rfl) hK10 (by omega) (fun _ => rfl) fun l hl => ?_
        have hlr := ((hKm l).mp hl).range hv hoin
        exact ev_op (ev_var rfl) (ev_var rfl) (rv_ixL hV10 (at_map V.bl se false hlr.1 (by omega)))
      have e11 : Ex G10 (upd G10 pd (.lst (((keptL p outs).map fun l => se.getD l.toNat false).map V.bl))) := Ex.new hpd
      have hD11 : SqL K (upd G10 pd (.lst (((keptL p outs).map fun l => se.getD l.toNat false).map V.bl))) pd (((keptL p outs).map fun l => se.getD l.toNat false).map V.bl) := sq_of upd_same
      generalize upd G10 pd (.lst (((keptL p outs).map fun l => se.getD l.toNat false).map V.bl)) = G11 at *
      have e8b := (e9.trans e10).trans e11
      refine go_ret (v := .bl (true && true)) (ev_andV (ev_callS (ea_cons (ev_var rfl) (ea_cons (ev_var rfl) (ea_cons (ev_var rfl) ea_nil))) (sv_lsettled (hp8.mono e8b) hv (ex_l (e10.trans e11) hI9) (by omega) (ex_l e11 hV10) hsl)) fun _ => ev_opL1 (xs := ((keptL p outs).map fun l => se.getD l.toNat false).map V.bl) (el_callP (A := fun vs G' => ∃ v, vs = [v, .ref pi] ∧ PlanAt K G' v (trimP p outs)) ((eap_p (tupP _ _ (ex_t e8b hP8) rfl rfl (e8b _ _ hq8) (rows_imp hR8 fun _ _ r => r.mono e8b)) fun v G' e h => ea_cons (ev_var rfl) ea_nil)) fun vs G' e h => ?_) (fun _ _ => ev_var rfl) fun x G' hx e => rv_eqD (dp_bools (sq_of hx)) (dp_bools (ex_l e hD11)) (shaped_bools _)) fun H1 _ => q H1
      obtain ⟨v, rfl, hv2⟩ := h
      exact sl_settled hv2 (ex_l e (ex_l (e10.trans e11) hI9)) (by omega) htr

end

section
variable {P : Program} {w : World} {K : PySem.W.Frag} {mg : Str → Option Value} {base : Heap} {A : Ads}

theorem law_all {fa : Addr} (T : Txt K w mg A) (d_l_cell_at : DefAt K mg "_law_cell_at" "_law_cell_at" s_l_cell_at ["_law_script", "_law_k"]) (d_l_many : DefAt K mg "_law_many" "_law_many" s_l_many ["_law_cell"]) (d_l_mixed : DefAt K mg "_law_mixed" "_law_mixed" s_l_mixed ["_law_cell", "_law_k", "_law_many_here"]) (d_l_gate_by : DefAt K mg "_law_gate_by" "_law_gate_by" s_l_gate_by ["_law_cell", "_law_below", "_law_most"]) (d_l_loose : DefAt K mg "_law_loose" "_law_loose" s_l_loose ["_law_script", "_law_many_here", "_law_most"]) (d_l_gates_by : DefAt K mg "_law_gates_by" "_law_gates_by" s_l_gates_by ["_law_script", "_law_many_here", "_law_most"]) (d_l_place : DefAt K mg "_law_place" "_law_place" s_l_place ["_law_k", "_law_count", "_law_turn"]) (d_l_turned : DefAt K mg "_law_turned" "_law_turned" s_l_turned ["_law_many_here", "_law_gates", "_law_turn"]) (d_l_plan_by : DefAt K mg "_law_plan_by" "_law_plan_by" s_l_plan_by ["_law_script", "_law_most"]) (d_wants : DefAt K mg "wants" "wants" s_wants ["kind"]) (d_checked_gate : DefAt K mg "checked_gate" "checked_gate" s_checked_gate ["gate", "lines"]) (d_checked : DefAt K mg "checked" "checked" s_checked ["plan"]) (d_kept_lines : DefAt K mg "kept_lines" "kept_lines" s_kept_lines ["plan", "outs"]) (d_trimmed : DefAt K mg "trimmed" "trimmed" s_trimmed ["plan", "outs"]) (d_l_refused : DefAt K mg "_law_refused" "_law_refused" s_l_refused ["_law_plan", "_law_outs"]) (d_l_stays : DefAt K mg "_law_stays" "_law_stays" s_l_stays ["_law_plan", "_law_outs"]) (d_l_whole : DefAt K mg "_law_whole" "_law_whole" s_l_whole ["_law_found"]) (d_l_numbers : DefAt K mg "_law_numbers" "_law_numbers" s_l_numbers ["_law_found", "_law_due"]) (d_l_same_plan : DefAt K mg "_law_same_plan" "_law_same_plan" s_l_same_plan ["_law_found", "_law_due"]) (d_l_ringed : DefAt K mg "_law_ringed" "_law_ringed" s_l_ringed ["_law_plan"]) (d_l_truths : DefAt K mg "_law_truths" "_law_truths" s_l_truths ["_law_cell", "_law_many_here"]) (d_ready : DefAt K mg "ready" "ready" s_ready ["plan", "done"]) (d_gone_through : DefAt K mg "gone_through" "gone_through" s_gone_through ["plan"]) (d_order : DefAt K mg "order" "order" s_order ["plan"]) (d_answer : DefAt K mg "answer" "answer" s_answer ["kind", "given"]) (d_answered : DefAt K mg "answered" "answered" s_answered ["plan", "values", "line"]) (d_settled : DefAt K mg "settled" "settled" s_settled ["plan", "ins"]) (d_l_answered : DefAt K mg "_law_answered" "_law_answered" s_l_answered ["_law_kind", "_law_given"]) (d_l_settled : DefAt K mg "_law_settled" "_law_settled" s_l_settled ["_law_plan", "_law_ins", "_law_values"]) (d_law : DefAt K mg "law" "law" s_law ["_law_script"]) (hfa : mg "law" = some (.ref fa)) : ∃ fd : FuncData, (∀ (s : Shared) (u : Value), BindsTo s fd ⟨[u], []⟩ [("_law_script", u)]) ∧ ∀ base : Heap, K.In base → base.Ns mainGlobals mg → FnOk P w K mg base (L2.CX P w) 7 fa fd ["_law_script"] (sp_law K A) :=
  law_of d_law hfa fun base {_ _} F => by
    have c_l_cell_at : CalX P w K mg base 1 "_law_cell_at" (sp_l_cell_at K A) := cal_of d_l_cell_at fun F => ok_l_cell_at F T 
    have c_l_many : CalX P w K mg base 1 "_law_many" (sp_l_many K A) := cal_of d_l_many fun F => ok_l_many F T 
    have c_l_mixed : CalX P w K mg base 1 "_law_mixed" (sp_l_mixed K A) := cal_of d_l_mixed fun F => ok_l_mixed F T 
    have c_l_gate_by : CalX P w K mg base 2 "_law_gate_by" (sp_l_gate_by K A) := cal_of d_l_gate_by fun F => ok_l_gate_by F T c_l_mixed
    have c_l_loose : CalX P w K mg base 3 "_law_loose" (sp_l_loose K A) := cal_of d_l_loose fun F => ok_l_loose F T c_l_cell_at c_l_gate_by
    have c_l_gates_by : CalX P w K mg base 3 "_law_gates_by" (sp_l_gates_by K A) := cal_of d_l_gates_by fun F => ok_l_gates_by F T c_l_cell_at c_l_gate_by
    have c_l_place : CalX P w K mg base 1 "_law_place" (sp_l_place K A) := cal_of d_l_place fun F => ok_l_place F T 
    have c_l_turned : CalX P w K mg base 2 "_law_turned" (sp_l_turned K A) := cal_of d_l_turned fun F => ok_l_turned F T c_l_place
    have c_l_plan_by : CalX P w K mg base 4 "_law_plan_by" (sp_l_plan_by K A) := cal_of d_l_plan_by fun F => ok_l_plan_by F T c_l_cell_at c_l_many c_l_loose c_l_gates_by c_l_turned
    have c_wants : CalX P w K mg base 1 "wants" (sp_wants K A) := cal_of d_wants fun F => ok_wants F T 
    have c_checked_gate : CalX P w K mg base 2 "checked_gate" (sp_checked_gate K A) := cal_of d_checked_gate fun F => ok_checked_gate F T c_wants
    have c_checked : CalX P w K mg base 3 "checked" (sp_checked K A) := cal_of d_checked fun F => ok_checked F T c_checked_gate
    have c_kept_lines : CalX P w K mg base 1 "kept_lines" (sp_kept_lines K A) := cal_of d_kept_lines fun F => ok_kept_lines F T 
    have c_trimmed : CalX P w K mg base 4 "trimmed" (sp_trimmed K A) := cal_of d_trimmed fun F => ok_trimmed F T c_checked c_kept_lines
    have c_l_refused : CalX P w K mg base 5 "_law_refused" (sp_l_refused K A) := cal_of d_l_refused fun F => ok_l_refused F T c_trimmed
    have c_l_stays : CalX P w K mg base 1 "_law_stays" (sp_l_stays K A) := cal_of d_l_stays fun F => ok_l_stays F T 
    have c_l_whole : CalX P w K mg base 1 "_law_whole" (sp_l_whole K A) := cal_of d_l_whole fun F => ok_l_whole F T 
    have c_l_numbers : CalX P w K mg base 2 "_law_numbers" (sp_l_numbers K A) := cal_of d_l_numbers fun F => ok_l_numbers F T c_l_whole
    have c_l_same_plan : CalX P w K mg base 2 "_law_same_plan" (sp_l_same_plan K A) := cal_of d_l_same_plan fun F => ok_l_same_plan F T c_l_whole
    have c_l_ringed : CalX P w K mg base 1 "_law_ringed" (sp_l_ringed K A) := cal_of d_l_ringed fun F => ok_l_ringed F T 
    have c_l_truths : CalX P w K mg base 2 "_law_truths" (sp_l_truths K A) := cal_of d_l_truths fun F => ok_l_truths F T c_l_mixed
    have c_ready : CalX P w K mg base 1 "ready" (sp_ready K A) := cal_of d_ready fun F => ok_ready F T 
    have c_gone_through : CalX P w K mg base 4 "gone_through" (sp_gone_through K A) := cal_of d_gone_through fun F => ok_gone_through F T c_checked c_ready
    have c_order : CalX P w K mg base 5 "order" (sp_order K A) := cal_of d_order fun F => ok_order F T c_gone_through
    have c_answer : CalX P w K mg base 2 "answer" (sp_answer K A) := cal_of d_answer fun F => ok_answer F T c_wants
    have c_answered : CalX P w K mg base 3 "answered" (sp_answered K A) := cal_of d_answered fun F => ok_answered F T c_answer
    have c_settled : CalX P w K mg base 6 "settled" (sp_settled K A) := cal_of d_settled fun F => ok_settled F T c_checked c_order c_answered
    have c_l_answered : CalX P w K mg base 1 "_law_answered" (sp_l_answered K A) := cal_of d_l_answered fun F => ok_l_answered F T 
    have c_l_settled : CalX P w K mg base 2 "_law_settled" (sp_l_settled K A) := cal_of d_l_settled fun F => ok_l_settled F T c_l_answered
    exact ok_law F T c_l_plan_by c_l_cell_at c_l_mixed c_l_refused c_trimmed c_l_stays c_l_numbers c_l_same_plan c_l_ringed c_l_truths c_settled c_l_settled
theorem txt_of {h : Heap} {cLEAST cSignalError cNoSize cNoKind cNoSources cNoLine cNoDelay cNoValues cRinged : Addr} {a0 b0 a1 b1 a2 b2 a3 b3 a4 b4 a5 b5 a6 b6 a7 b7 a8 b8 : Tok}{tokc_MANY_SOURCES tokc_MANY_INPUTS tokc_MANY_GATES tokc_MOST_DELAY : Tok} (X : K.In h) (G : h.Ns mainGlobals mg) (aL : PySem.W.nsIn K mainGlobals "LEAST" = some (some (.ref cLEAST))) (lL : K.lookup cLEAST = some { cls := .type "dict", data := .dict #[{ hash := PyData.keyHash w.params "yes", key := .str "yes" a0, val := .int 0 b0 }, { hash := PyData.keyHash w.params "no", key := .str "no" a1, val := .int 0 b1 }, { hash := PyData.keyHash w.params "keep", key := .str "keep" a2, val := .int 1 b2 }, { hash := PyData.keyHash w.params "not", key := .str "not" a3, val := .int 1 b3 }, { hash := PyData.keyHash w.params "both", key := .str "both" a4, val := .int 2 b4 }, { hash := PyData.keyHash w.params "either", key := .str "either" a5, val := .int 2 b5 }, { hash := PyData.keyHash w.params "unlike", key := .str "unlike" a6, val := .int 2 b6 }, { hash := PyData.keyHash w.params "pick", key := .str "pick" a7, val := .int 3 b7 }, { hash := PyData.keyHash w.params "most", key := .str "most" a8, val := .int 3 b8 }] 9 }) (wL : (cLEAST == sysModules) = false) (a_SignalError : PySem.W.nsIn K mainGlobals "SignalError" = some (some (.ref cSignalError))) (x_SignalError : PySem.W.excIn K cSignalError [.type "ValueError", .type "Exception", .type "BaseException", .type "object"] "ValueError.__new__" = true) (k_SignalError : PySem.W.keepIn K (.ref cSignalError) = true) (b_SignalError : PySem.W.subIn K (.ref cSignalError) (.type "BaseException") = some true) (t_SignalError : PySem.W.typeIn K (.ref cSignalError) = some (.type "type")) (a_NoSize : PySem.W.nsIn K mainGlobals "NoSize" = some (some (.ref cNoSize))) (x_NoSize : PySem.W.excIn K cNoSize [.type "ValueError", .type "Exception", .type "BaseException", .type "object"] "ValueError.__new__" = true) (k_NoSize : PySem.W.keepIn K (.ref cNoSize) = true) (b_NoSize : PySem.W.subIn K (.ref cNoSize) (.type "BaseException") = some true) (t_NoSize : PySem.W.typeIn K (.ref cNoSize) = some (.type "type")) (a_NoKind : PySem.W.nsIn K mainGlobals "NoKind" = some (some (.ref cNoKind))) (x_NoKind : PySem.W.excIn K cNoKind [.type "ValueError", .type "Exception", .type "BaseException", .type "object"] "ValueError.__new__" = true) (k_NoKind : PySem.W.keepIn K (.ref cNoKind) = true) (b_NoKind : PySem.W.subIn K (.ref cNoKind) (.type "BaseException") = some true) (t_NoKind : PySem.W.typeIn K (.ref cNoKind) = some (.type "type")) (a_NoSources : PySem.W.nsIn K mainGlobals "NoSources" = some (some (.ref cNoSources))) (x_NoSources : PySem.W.excIn K cNoSources [.type "ValueError", .type "Exception", .type "BaseException", .type "object"] "ValueError.__new__" = true) (k_NoSources : PySem.W.keepIn K (.ref cNoSources) = true) (b_NoSources : PySem.W.subIn K (.ref cNoSources) (.type "BaseException") = some true) (t_NoSources : PySem.W.typeIn K (.ref cNoSources) = some (.type "type")) (a_NoLine : PySem.W.nsIn K mainGlobals "NoLine" = some (some (.ref cNoLine))) (x_NoLine : PySem.W.excIn K cNoLine [.type "ValueError", .type "Exception", .type "BaseException", .type "object"] "ValueError.__new__" = true) (k_NoLine : PySem.W.keepIn K (.ref cNoLine) = true) (b_NoLine : PySem.W.subIn K (.ref cNoLine) (.type "BaseException") = some true) (t_NoLine : PySem.W.typeIn K (.ref cNoLine) = some (.type "type")) (a_NoDelay : PySem.W.nsIn K mainGlobals "NoDelay" = some (some (.ref cNoDelay))) (x_NoDelay : PySem.W.excIn K cNoDelay [.type "ValueError", .type "Exception", .type "BaseException", .type "object"] "ValueError.__new__" = true) (k_NoDelay : PySem.W.keepIn K (.ref cNoDelay) = true) (b_NoDelay : PySem.W.subIn K (.ref cNoDelay) (.type "BaseException") = some true) (t_NoDelay : PySem.W.typeIn K (.ref cNoDelay) = some (.type "type")) (a_NoValues : PySem.W.nsIn K mainGlobals "NoValues" = some (some (.ref cNoValues))) (x_NoValues : PySem.W.excIn K cNoValues [.type "ValueError", .type "Exception", .type "BaseException", .type "object"] "ValueError.__new__" = true) (k_NoValues : PySem.W.keepIn K (.ref cNoValues) = true) (b_NoValues : PySem.W.subIn K (.ref cNoValues) (.type "BaseException") = some true) (t_NoValues : PySem.W.typeIn K (.ref cNoValues) = some (.type "type")) (a_Ringed : PySem.W.nsIn K mainGlobals "Ringed" = some (some (.ref cRinged))) (x_Ringed : PySem.W.excIn K cRinged [.type "ValueError", .type "Exception", .type "BaseException", .type "object"] "ValueError.__new__" = true) (k_Ringed : PySem.W.keepIn K (.ref cRinged) = true) (b_Ringed : PySem.W.subIn K (.ref cRinged) (.type "BaseException") = some true) (t_Ringed : PySem.W.typeIn K (.ref cRinged) = some (.type "type")) (n_range : PySem.W.nsIn K mainGlobals "range" = some none) (n_len : PySem.W.nsIn K mainGlobals "len" = some none) (n_all : PySem.W.nsIn K mainGlobals "all" = some none) (n_any : PySem.W.nsIn K mainGlobals "any" = some none) (n_list : PySem.W.nsIn K mainGlobals "list" = some none) (n_tuple : PySem.W.nsIn K mainGlobals "tuple" = some none) (n_int : PySem.W.nsIn K mainGlobals "int" = some none) (n_bool : PySem.W.nsIn K mainGlobals "bool" = some none) (n_str : PySem.W.nsIn K mainGlobals "str" = some none) (n_isinstance : PySem.W.nsIn K mainGlobals "isinstance" = some none) (n_enumerate : PySem.W.nsIn K mainGlobals "enumerate" = some none) (n_ValueError : PySem.W.nsIn K mainGlobals "ValueError" = some none) (c_MANY_SOURCES : PySem.W.nsIn K mainGlobals "MANY_SOURCES" = some (some (.int 9 tokc_MANY_SOURCES))) (c_MANY_INPUTS : PySem.W.nsIn K mainGlobals "MANY_INPUTS" = some (some (.int 60 tokc_MANY_INPUTS))) (c_MANY_GATES : PySem.W.nsIn K mainGlobals "MANY_GATES" = some (some (.int 200 tokc_MANY_GATES))) (c_MOST_DELAY : PySem.W.nsIn K mainGlobals "MOST_DELAY" = some (some (.int 60 tokc_MOST_DELAY))) (s_NoSize_NoLine : PySem.W.subIn K (.ref cNoSize) (.ref cNoLine) = some false) (i_NoLine : PySem.W.isClsIn K cNoLine = true) (s_NoKind_NoLine : PySem.W.subIn K (.ref cNoKind) (.ref cNoLine) = some false) (s_NoSources_NoLine : PySem.W.subIn K (.ref cNoSources) (.ref cNoLine) = some false) (s_NoLine_NoLine : PySem.W.subIn K (.ref cNoLine) (.ref cNoLine) = some true) (s_NoDelay_NoLine : PySem.W.subIn K (.ref cNoDelay) (.ref cNoLine) = some false) (s_NoValues_NoLine : PySem.W.subIn K (.ref cNoValues) (.ref cNoLine) = some false) (s_Ringed_NoLine : PySem.W.subIn K (.ref cRinged) (.ref cNoLine) = some false) : Txt K w mg ⟨cLEAST, cSignalError, cNoSize, cNoKind, cNoSources, cNoLine, cNoDelay, cNoValues, cRinged, 0, 0, 0⟩ := ⟨PySem.W.mg_none_of X G n_range, PySem.W.mg_none_of X G n_len, PySem.W.mg_none_of X G n_all, PySem.W.mg_none_of X G n_any, PySem.W.mg_none_of X G n_list, PySem.W.mg_none_of X G n_tuple, PySem.W.mg_none_of X G n_int, PySem.W.mg_none_of X G n_bool, PySem.W.mg_none_of X G n_str, PySem.W.mg_none_of X G n_isinstance, PySem.W.mg_none_of X G n_enumerate, PySem.W.mg_none_of X G n_ValueError, ⟨_, PySem.W.mg_of X G c_MANY_SOURCES, tokc_MANY_SOURCES, rfl⟩, ⟨_, PySem.W.mg_of X G c_MANY_INPUTS, tokc_MANY_INPUTS, rfl⟩, ⟨_, PySem.W.mg_of X G c_MANY_GATES, tokc_MANY_GATES, rfl⟩, ⟨_, PySem.W.mg_of X G c_MOST_DELAY, tokc_MOST_DELAY, rfl⟩, PySem.W.mg_of X G aL, least_at lL wL, PySem.W.mg_of X G a_SignalError, x_SignalError, k_SignalError, b_SignalError, t_SignalError, PySem.W.mg_of X G a_NoSize, x_NoSize, k_NoSize, b_NoSize, t_NoSize, PySem.W.mg_of X G a_NoKind, x_NoKind, k_NoKind, b_NoKind, t_NoKind, PySem.W.mg_of X G a_NoSources, x_NoSources, k_NoSources, b_NoSources, t_NoSources, PySem.W.mg_of X G a_NoLine, x_NoLine, k_NoLine, b_NoLine, t_NoLine, PySem.W.mg_of X G a_NoDelay, x_NoDelay, k_NoDelay, b_NoDelay, t_NoDelay, PySem.W.mg_of X G a_NoValues, x_NoValues, k_NoValues, b_NoValues, t_NoValues, PySem.W.mg_of X G a_Ringed, x_Ringed, k_Ringed, b_Ringed, t_Ringed, exm_of b_NoLine i_NoLine t_NoLine s_NoSize_NoLine, exm_of b_NoLine i_NoLine t_NoLine s_NoKind_NoLine, exm_of b_NoLine i_NoLine t_NoLine s_NoSources_NoLine, exm_of b_NoLine i_NoLine t_NoLine s_NoLine_NoLine, exm_of b_NoLine i_NoLine t_NoLine s_NoDelay_NoLine, exm_of b_NoLine i_NoLine t_NoLine s_NoValues_NoLine, exm_of b_NoLine i_NoLine t_NoLine s_Ringed_NoLine⟩
end
end Sg
open PySem PySem.W PyProof.Rows in
set_option maxRecDepth 100000 in
set_option maxHeartbeats 0 in
theorem PySem.Challenge.cw_signalgraph_k11_whole_trimmed_holds : PySem.Challenge.rw_signalgraph_k11_whole_trimmed.Holds := by
  w_on; o_law; k_head; (case hw => w_witness2)
  k_fill
  refine L2.walk_of (n := 63) (k := 7) (x := "_law_script") (CX := fun w => L2.CX PySem.Challenge.rw_signalgraph_k11_whole_trimmed.prog w) (sp := fun w vs H Q E => ∃ (a : Addr) (ns : List Int), vs = [.ref a] ∧ L2.SqL _ H a (ns.map L2.V.int) ∧ ns.length ≤ 63 ∧ ∀ H', Q (.bl true) H') rfl (by decide) rfl ⟨rfl, by decide, by decide⟩ (fun w h Y => PySem.W.kIn_of Y) ?F (fun _ _ a ns hl _ hS => ⟨a, ns, rfl, hS, hl, fun _ => rfl⟩) ?Z
  case Z =>
    intro w H s e s' z
    obtain ⟨_, _, _, _, _, _, _, _, _, _, _, _, z⟩ := z
    exact z.elim
  case F =>
    intro w mg fa h KX G hmg
    refine' Sg.law_all (Sg.txt_of (w := w) KX G ?aL ?lL ?wL ?a_SignalError ?x_SignalError ?k_SignalError ?b_SignalError ?t_SignalError ?a_NoSize ?x_NoSize ?k_NoSize ?b_NoSize ?t_NoSize ?a_NoKind ?x_NoKind ?k_NoKind ?b_NoKind ?t_NoKind ?a_NoSources ?x_NoSources ?k_NoSources ?b_NoSources ?t_NoSources ?a_NoLine ?x_NoLine ?k_NoLine ?b_NoLine ?t_NoLine ?a_NoDelay ?x_NoDelay ?k_NoDelay ?b_NoDelay ?t_NoDelay ?a_NoValues ?x_NoValues ?k_NoValues ?b_NoValues ?t_NoValues ?a_Ringed ?x_Ringed ?k_Ringed ?b_Ringed ?t_Ringed ?n_range ?n_len ?n_all ?n_any ?n_list ?n_tuple ?n_int ?n_bool ?n_str ?n_isinstance ?n_enumerate ?n_ValueError ?c_MANY_SOURCES ?c_MANY_INPUTS ?c_MANY_GATES ?c_MOST_DELAY ?s_NoSize_NoLine ?i_NoLine ?s_NoKind_NoLine ?s_NoSources_NoLine ?s_NoLine_NoLine ?s_NoDelay_NoLine ?s_NoValues_NoLine ?s_Ringed_NoLine) (Sg.def_at KX G ?a0 ?l0 ?c0 ?k0 fun _ _ _ _ _ _ us hl => match us, hl with | [_, _], _ => rfl) (Sg.def_at KX G ?a1 ?l1 ?c1 ?k1 fun _ _ _ _ _ _ us hl => match us, hl with | [_], _ => rfl) (Sg.def_at KX G ?a2 ?l2 ?c2 ?k2 fun _ _ _ _ _ _ us hl => match us, hl with | [_, _, _], _ => rfl) (Sg.def_at KX G ?a3 ?l3 ?c3 ?k3 fun _ _ _ _ _ _ us hl => match us, hl with | [_, _, _], _ => rfl) (Sg.def_at KX G ?a4 ?l4 ?c4 ?k4 fun _ _ _ _ _ _ us hl => match us, hl with | [_, _, _], _ => rfl) (Sg.def_at KX G ?a5 ?l5 ?c5 ?k5 fun _ _ _ _ _ _ us hl => match us, hl with | [_, _, _], _ => rfl) (Sg.def_at KX G ?a6 ?l6 ?c6 ?k6 fun _ _ _ _ _ _ us hl => match us, hl with | [_, _, _], _ => rfl) (Sg.def_at KX G ?a7 ?l7 ?c7 ?k7 fun _ _ _ _ _ _ us hl => match us, hl with | [_, _, _], _ => rfl) (Sg.def_at KX G ?a8 ?l8 ?c8 ?k8 fun _ _ _ _ _ _ us hl => match us, hl with | [_, _], _ => rfl) (Sg.def_at KX G ?a9 ?l9 ?c9 ?k9 fun _ _ _ _ _ _ us hl => match us, hl with | [_], _ => rfl) (Sg.def_at KX G ?a10 ?l10 ?c10 ?k10 fun _ _ _ _ _ _ us hl => match us, hl with | [_, _], _ => rfl) (Sg.def_at KX G ?a11 ?l11 ?c11 ?k11 fun _ _ _ _ _ _ us hl => match us, hl with | [_], _ => rfl) (Sg.def_at KX G ?a12 ?l12 ?c12 ?k12 fun _ _ _ _ _ _ us hl => match us, hl with | [_, _], _ => rfl) (Sg.def_at KX G ?a13 ?l13 ?c13 ?k13 fun _ _ _ _ _ _ us hl => match us, hl with | [_, _], _ => rfl) (Sg.def_at KX G ?a14 ?l14 ?c14 ?k14 fun _ _ _ _ _ _ us hl => match us, hl with | [_, _], _ => rfl) (Sg.def_at KX G ?a15 ?l15 ?c15 ?k15 fun _ _ _ _ _ _ us hl => match us, hl with | [_, _], _ => rfl) (Sg.def_at KX G ?a16 ?l16 ?c16 ?k16 fun _ _ _ _ _ _ us hl => match us, hl with | [_], _ => rfl) (Sg.def_at KX G ?a17 ?l17 ?c17 ?k17 fun _ _ _ _ _ _ us hl => match us, hl with | [_, _], _ => rfl) (Sg.def_at KX G ?a18 ?l18 ?c18 ?k18 fun _ _ _ _ _ _ us hl => match us, hl with | [_, _], _ => rfl) (Sg.def_at KX G ?a19 ?l19 ?c19 ?k19 fun _ _ _ _ _ _ us hl => match us, hl with | [_], _ => rfl) (Sg.def_at KX G ?a20 ?l20 ?c20 ?k20 fun _ _ _ _ _ _ us hl => match us, hl with | [_, _], _ => rfl) (Sg.def_at KX G ?a21 ?l21 ?c21 ?k21 fun _ _ _ _ _ _ us hl => match us, hl with | [_, _], _ => rfl) (Sg.def_at KX G ?a22 ?l22 ?c22 ?k22 fun _ _ _ _ _ _ us hl => match us, hl with | [_], _ => rfl) (Sg.def_at KX G ?a23 ?l23 ?c23 ?k23 fun _ _ _ _ _ _ us hl => match us, hl with | [_], _ => rfl) (Sg.def_at KX G ?a24 ?l24 ?c24 ?k24 fun _ _ _ _ _ _ us hl => match us, hl with | [_, _], _ => rfl) (Sg.def_at KX G ?a25 ?l25 ?c25 ?k25 fun _ _ _ _ _ _ us hl => match us, hl with | [_, _, _], _ => rfl) (Sg.def_at KX G ?a26 ?l26 ?c26 ?k26 fun _ _ _ _ _ _ us hl => match us, hl with | [_, _], _ => rfl) (Sg.def_at KX G ?a27 ?l27 ?c27 ?k27 fun _ _ _ _ _ _ us hl => match us, hl with | [_, _], _ => rfl) (Sg.def_at KX G ?a28 ?l28 ?c28 ?k28 fun _ _ _ _ _ _ us hl => match us, hl with | [_, _, _], _ => rfl) (Sg.def_at KX G ?a29 ?l29 ?c29 ?k29 fun _ _ _ _ _ _ us hl => match us, hl with | [_], _ => rfl) hmg
    (case aL => k_is)
    (case lL => k_is)
    (case wL => rfl)
    (case a_SignalError => k_is)
    (case x_SignalError => k_exc)
    (case k_SignalError => k_is)
    (case b_SignalError => k_is)
    (case t_SignalError => k_is)
    (case a_NoSize => k_is)
    (case x_NoSize => k_exc)
    (case k_NoSize => k_is)
    (case b_NoSize => k_is)
    (case t_NoSize => k_is)
    (case a_NoKind => k_is)
    (case x_NoKind => k_exc)
    (case k_NoKind => k_is)
    (case b_NoKind => k_is)
    (case t_NoKind => k_is)
    (case a_NoSources => k_is)
    (case x_NoSources => k_exc)
    (case k_NoSources => k_is)
    (case b_NoSources => k_is)
    (case t_NoSources => k_is)
    (case a_NoLine => k_is)
    (case x_NoLine => k_exc)
    (case k_NoLine => k_is)
    (case b_NoLine => k_is)
    (case t_NoLine => k_is)
    (case a_NoDelay => k_is)
    (case x_NoDelay => k_exc)
    (case k_NoDelay => k_is)
    (case b_NoDelay => k_is)
    (case t_NoDelay => k_is)
    (case a_NoValues => k_is)
    (case x_NoValues => k_exc)
    (case k_NoValues => k_is)
    (case b_NoValues => k_is)
    (case t_NoValues => k_is)
    (case a_Ringed => k_is)
    (case x_Ringed => k_exc)
    (case k_Ringed => k_is)
    (case b_Ringed => k_is)
    (case t_Ringed => k_is)
    (case n_range => k_is)
    (case n_len => k_is)
    (case n_all => k_is)
    (case n_any => k_is)
    (case n_list => k_is)
    (case n_tuple => k_is)
    (case n_int => k_is)
    (case n_bool => k_is)
    (case n_str => k_is)
    (case n_isinstance => k_is)
    (case n_enumerate => k_is)
    (case n_ValueError => k_is)
    (case c_MANY_SOURCES => k_is)
    (case c_MANY_INPUTS => k_is)
    (case c_MANY_GATES => k_is)
    (case c_MOST_DELAY => k_is)
    (case s_NoSize_NoLine => k_is)
    (case i_NoLine => k_is)
    (case s_NoKind_NoLine => k_is)
    (case s_NoSources_NoLine => k_is)
    (case s_NoLine_NoLine => first | rfl | k_is)
    (case s_NoDelay_NoLine => k_is)
    (case s_NoValues_NoLine => k_is)
    (case s_Ringed_NoLine => k_is)
    (case a0 => k_is)
    (case l0 => k_is)
    (case c0 => k_is)
    (case k0 => k_is)
    (case a1 => k_is)
    (case l1 => k_is)
    (case c1 => k_is)
    (case k1 => k_is)
    (case a2 => k_is)
    (case l2 => k_is)
    (case c2 => k_is)
    (case k2 => k_is)
    (case a3 => k_is)
    (case l3 => k_is)
    (case c3 => k_is)
    (case k3 => k_is)
    (case a4 => k_is)
    (case l4 => k_is)
    (case c4 => k_is)
    (case k4 => k_is)
    (case a5 => k_is)
    (case l5 => k_is)
    (case c5 => k_is)
    (case k5 => k_is)
    (case a6 => k_is)
    (case l6 => k_is)
    (case c6 => k_is)
    (case k6 => k_is)
    (case a7 => k_is)
    (case l7 => k_is)
    (case c7 => k_is)
    (case k7 => k_is)
    (case a8 => k_is)
    (case l8 => k_is)
    (case c8 => k_is)
    (case k8 => k_is)
    (case a9 => k_is)
    (case l9 => k_is)
    (case c9 => k_is)
    (case k9 => k_is)
    (case a10 => k_is)
    (case l10 => k_is)
    (case c10 => k_is)
    (case k10 => k_is)
    (case a11 => k_is)
    (case l11 => k_is)
    (case c11 => k_is)
    (case k11 => k_is)
    (case a12 => k_is)
    (case l12 => k_is)
    (case c12 => k_is)
    (case k12 => k_is)
    (case a13 => k_is)
    (case l13 => k_is)
    (case c13 => k_is)
    (case k13 => k_is)
    (case a14 => k_is)
    (case l14 => k_is)
    (case c14 => k_is)
    (case k14 => k_is)
    (case a15 => k_is)
    (case l15 => k_is)
    (case c15 => k_is)
    (case k15 => k_is)
    (case a16 => k_is)
    (case l16 => k_is)
    (case c16 => k_is)
    (case k16 => k_is)
    (case a17 => k_is)
    (case l17 => k_is)
    (case c17 => k_is)
    (case k17 => k_is)
    (case a18 => k_is)
    (case l18 => k_is)
    (case c18 => k_is)
    (case k18 => k_is)
    (case a19 => k_is)
    (case l19 => k_is)
    (case c19 => k_is)
    (case k19 => k_is)
    (case a20 => k_is)
    (case l20 => k_is)
    (case c20 => k_is)
    (case k20 => k_is)
    (case a21 => k_is)
    (case l21 => k_is)
    (case c21 => k_is)
    (case k21 => k_is)
    (case a22 => k_is)
    (case l22 => k_is)
    (case c22 => k_is)
    (case k22 => k_is)
    (case a23 => k_is)
    (case l23 => k_is)
    (case c23 => k_is)
    (case k23 => k_is)
    (case a24 => k_is)
    (case l24 => k_is)
    (case c24 => k_is)
    (case k24 => k_is)
    (case a25 => k_is)
    (case l25 => k_is)
    (case c25 => k_is)
    (case k25 => k_is)
    (case a26 => k_is)
    (case l26 => k_is)
    (case c26 => k_is)
    (case k26 => k_is)
    (case a27 => k_is)
    (case l27 => k_is)
    (case c27 => k_is)
    (case k27 => k_is)
    (case a28 => k_is)
    (case l28 => k_is)
    (case c28 => k_is)
    (case k28 => k_is)
    (case a29 => k_is)
    (case l29 => k_is)
    (case c29 => k_is)
    (case k29 => k_is)
