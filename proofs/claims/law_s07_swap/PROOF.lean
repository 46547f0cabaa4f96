import PyProof.Rows.All
import Wide.All
import OpenK.AllK
import Wide.FinOn
import Open.SpecLaws
import KE.OsGo
import HandS.ForMost
import HandS.ForSpec
import HandS.Walk
import HandS.Evl
import Sn88Spec
import HandS.Conv
import HandS.SortInts
import PySem.Challenge.RW_hatboxes_s07_swap
set_option Elab.async false
set_option linter.all false
set_option maxRecDepth 100000
set_option maxHeartbeats 2000000
namespace Hb
theorem getD_mapR {α : Type} (f : Nat → α) (d : α) {n i : Nat} (hi : i < n) : ((List.range n).map f).getD i d = f i := by
  rw [List.getD_eq_getElem?_getD, List.getElem?_map, List.getElem?_range hi]
  rfl
end Hb
namespace Hb
open PySem PySem.Spec PyProof.Rows L2 Evl
/-! ### naturals as values -/
abbrev vN (n : Nat) : V := .int (n : Int)
abbrev vL (l : List Nat) : List V := l.map vN
theorem vL_len (l : List Nat) : (vL l).length = l.length := List.length_map _
theorem vL_at {l : List Nat} {i : Nat} (hi : i < l.length) : (vL l)[i]? = some (vN (l.getD i 0)) := by
  rw [List.getElem?_map, List.getD_eq_getElem?_getD, List.getElem?_eq_getElem hi]
  rfl
theorem vL_inv {l : List Nat} {i : Nat} {v : V} (h : (vL l)[i]? = some v) : i < l.length ∧ v = vN (l.getD i 0) := by
  have hi : i < (vL l).length := (List.getElem?_eq_some_iff.mp h).1
  rw [vL_len] at hi
  rw [vL_at hi] at h
  exact ⟨hi, (Option.some.inj h).symm⟩
theorem atI_vL {l : List Nat} {i : Nat} (hi : i < l.length) : atI (vL l) (i : Int) = some (vN (l.getD i 0)) := atI_nat (vL_at hi)
theorem vL_ints (l : List Nat) : vL l = (l.map fun n : Nat => (n : Int)).map V.int := by
  rw [List.map_map]
  rfl
theorem getD_mem {l : List Nat} {i : Nat} (hi : i < l.length) : l.getD i 0 ∈ l := by
  rw [List.getD_eq_getElem?_getD, List.getElem?_eq_getElem hi]
  exact List.getElem_mem _
theorem sum_cast : ∀ l : List Nat, (l.map fun n : Nat => (n : Int)).sum = ((l.sum : Nat) : Int)
  | [] => rfl
  | a :: l => by
    rw [List.map_cons, List.sum_cons, List.sum_cons, sum_cast l, Int.natCast_add]
/-! ### what a value is, in a heap -/
abbrev VP := V → Hp → Prop
/-- a list of naturals -/
def IsN (K : PySem.W.Frag) (l : List Nat) : VP := fun v H => ∃ a, v = .ref a ∧ SqL K H a (vL l)
theorem IsN.mono {K : PySem.W.Frag} {l : List Nat} {v : V} {H H' : Hp} (e : Ex H H') : IsN K l v H → IsN K l v H'
  | ⟨a, h1, h2⟩ => ⟨a, h1, ex_l e h2⟩
/-- a list of lists of naturals -/
def IsNN (K : PySem.W.Frag) (ll : List (List Nat)) : VP := fun v H => ∃ a vs, v = .ref a ∧ SqL K H a vs ∧ vs.length = ll.length ∧ ∀ i, i < ll.length → ∃ x, vs[i]? = some x ∧ IsN K (ll.getD i []) x H
theorem IsNN.mono {K : PySem.W.Frag} {ll : List (List Nat)} {v : V} {H H' : Hp} (e : Ex H H') : IsNN K ll v H → IsNN K ll v H'
  | ⟨a, vs, h1, h2, h3, h4⟩ => ⟨a, vs, h1, ex_l e h2, h3, fun i hi => let ⟨x, a, b⟩ := h4 i hi; ⟨x, a, b.mono e⟩⟩
/-! ### to a value with a property -/
def EvP (te : TE) (σ : L2.St) (H : Hp) (P : VP) : Prop := ∀ H1, Ex H H1 → ∀ Q : VK, (∀ v H2, Ex H1 H2 → P v H2 → Q v H2) → te σ H1 Q
def EvAP (ta : TA) (σ : L2.St) (H : Hp) (R : List V → Hp → Prop) : Prop := ∀ H1, Ex H H1 → ∀ Q : List V → Hp → Prop, (∀ vs H2, Ex H1 H2 → R vs H2 → Q vs H2) → ta σ H1 Q
def SpP (sp : Sp) (vs : List V) (H : Hp) (P : VP) : Prop := ∀ H1, Ex H H1 → ∀ Q : VK, (∀ v H2, Ex H1 H2 → P v H2 → Q v H2) → ∀ E : XK, sp vs H1 Q E
def MonoP (P : VP) : Prop := ∀ v H H', Ex H H' → P v H → P v H'
def MonoR (R : List V → Hp → Prop) : Prop := ∀ v H H', Ex H H' → R v H → R v H'
section
variable {K : PySem.W.Frag} {σ : L2.St} {H H' : Hp} {te : TE} {ta : TA} {P P' : VP} {R : List V → Hp → Prop} {v z : V}
theorem isN_mono {l : List Nat} : MonoP (IsN K l) := fun _ _ _ e h => h.mono e
theorem isNN_mono {l : List (List Nat)} : MonoP (IsNN K l) := fun _ _ _ e h => h.mono e
theorem EvP.mono (e : Ex H H') (h : EvP te σ H P) : EvP te σ H' P := fun H1 a Q q => h H1 (e.trans a) Q q
theorem EvP.to (h : EvP te σ H P) (k : ∀ v H1, Ex H H1 → P v H1 → P' v H1) : EvP te σ H P' := fun H1 a Q q => h H1 a Q fun v H2 e p => q v H2 e (k v H2 (a.trans e) p)
theorem ep_ev (h : Ev te σ H z) : EvP te σ H (fun v _ => v = z) := fun H1 a Q q => h H1 a Q fun H2 e => q z H2 e rfl
theorem ev_ep (h : EvP te σ H (fun v _ => v = z)) : Ev te σ H z := fun H1 a Q q => h H1 a Q fun v H2 e p => by
  subst p
  exact q H2 e
theorem ep_evP (h : Ev te σ H z) (p : ∀ H1, Ex H H1 → P z H1) : EvP te σ H P := fun H1 a Q q => h H1 a Q fun H2 e => q z H2 e (p H2 (a.trans e))
theorem ep_evL {xs : List V} (h : EvL te σ H xs) : EvP te σ H (fun v H1 => ∃ a, v = .ref a ∧ H1 a = some (.lst xs)) := fun H1 a Q q => h H1 a Q fun p H2 _ e h2 => q _ H2 e ⟨p, rfl, h2⟩
theorem ep_evN {l : List Nat} (h : EvL te σ H (vL l)) : EvP te σ H (IsN K l) := fun H1 a Q q => h H1 a Q fun p H2 _ e h2 => q _ H2 e ⟨p, rfl, sq_of h2⟩
theorem ea_nilP : EvAP tNil σ H (fun vs _ => vs = []) := fun H1 _ _ q => q [] H1 (Ex.refl H1) rfl
theorem ea_consP {tr : TA} (hm : MonoP P) (h : EvP te σ H P) (hr : EvAP tr σ H R) : EvAP (tCons te tr) σ H (fun vs H1 => ∃ v r, vs = v :: r ∧ P v H1 ∧ R r H1) := fun H1 e Q q =>
  h H1 e _ fun v H2 e2 p => hr H2 (e.trans e2) _ fun r H3 e3 pr => q _ H3 (e2.trans e3) ⟨v, r, rfl, hm v _ _ e3 p, pr⟩
theorem ep_call {sp : Sp} {dvs : List V} {E : XK} (h : EvAP ta σ H R) (hs : ∀ vs H1, Ex H H1 → R vs H1 → SpP sp (vs ++ dvs) H1 P) : EvP (tCall sp dvs E ta) σ H P := fun H1 e Q q =>
  h H1 e _ fun vs H2 e2 r => hs vs H2 (e.trans e2) r H2 (Ex.refl H2) Q (fun v H3 e3 p => q v H3 (e2.trans e3) p) E
theorem ep_callV {sp : Sp} {dvs vs : List V} {E : XK} (h : EvA ta σ H vs) (hs : SpP sp (vs ++ dvs) H P) : EvP (tCall sp dvs E ta) σ H P := fun H1 e Q q =>
  h H1 e _ fun H2 e2 => hs H2 (e.trans e2) Q (fun v H3 e3 p => q v H3 (e2.trans e3) p) E
theorem ev_callP {sp : Sp} {dvs : List V} {E : XK} (h : EvAP ta σ H R) (hs : ∀ vs H1, Ex H H1 → R vs H1 → SpV sp (vs ++ dvs) H1 z) : Ev (tCall sp dvs E ta) σ H z := fun H1 e Q q =>
  h H1 e _ fun vs H2 e2 r => hs vs H2 (e.trans e2) r H2 (Ex.refl H2) Q (fun H3 e3 => q H3 (e2.trans e3)) E
theorem ev_cbP {r : List V → Hp → VK → Prop} (h : EvAP ta σ H R) (hs : ∀ vs H1, Ex H H1 → R vs H1 → RC r vs H1 z) : Ev (tCB r ta) σ H z := fun H1 e Q q =>
  h H1 e _ fun vs H2 e2 p => hs vs H2 (e.trans e2) p H2 (Ex.refl H2) Q (fun H3 e3 => q H3 (e2.trans e3))
theorem ev_opP {r : R2} {tb : TE} {y : V} (hm : MonoP P) (ha : EvP te σ H P) (hb : Ev tb σ H y) (hr : ∀ x H1, Ex H H1 → P x H1 → RV r x y H1 z) : Ev (tOp r te tb) σ H z := fun H1 e Q q =>
  ha H1 e _ fun v H2 e2 p => hb H2 (e.trans e2) _ fun H3 e3 => hr v H3 ((e.trans e2).trans e3) (hm v _ _ e3 p) H3 (Ex.refl H3) Q fun H4 e4 => q H4 ((e2.trans e3).trans e4)
theorem ep_opP {r : R2} {tb : TE} {y : V} (hm : MonoP P) (ha : EvP te σ H P) (hb : Ev tb σ H y) (hr : ∀ x H1, Ex H H1 → P x H1 → ∀ Q : VK, (∀ v H2, Ex H1 H2 → P' v H2 → Q v H2) → r x y H1 Q) : EvP (tOp r te tb) σ H P' := fun H1 e Q q =>
  ha H1 e _ fun v H2 e2 p => hb H2 (e.trans e2) _ fun H3 e3 => hr v H3 ((e.trans e2).trans e3) (hm v _ _ e3 p) Q fun u H4 e4 => q u H4 ((e2.trans e3).trans e4)
/-- a list's item -/
theorem ep_ix {tb : TE} {i : Int} (hm : MonoP P) (ha : EvP te σ H P) (hb : Ev tb σ H (.int i)) (h : ∀ x H1, Ex H H1 → P x H1 → ∃ p xs v, x = .ref p ∧ SqL K H1 p xs ∧ atI xs i = some v ∧ P' v H1) (hm' : MonoP P') : EvP (tOp (rIxL K) te tb) σ H P' :=
  ep_opP hm ha hb fun x H1 e p Q q => by
    obtain ⟨a, xs, v, rfl, hs, hv, hp⟩ := h x H1 e p
    exact ⟨a, xs, i, v, rfl, rfl, hs, hv, q v H1 (Ex.refl H1) hp⟩
theorem ev_varN {i : Nat} {n : Nat} (h : σ[i]? = some (some (vN n))) : Ev (tVar i) σ H (vN n) := ev_var h
/-! ### naturals reckoned with -/
variable {tb : TE} {a b : Nat}
theorem ev_addN (ha : Ev te σ H (vN a)) (hb : Ev tb σ H (vN b)) : Ev (tOp (rI0 fun i j => .int (i + j)) te tb) σ H (vN (a + b)) := ev_is (ev_op ha hb rv_I0) (by
  show V.int _ = V.int _
  rw [Int.natCast_add])
theorem ev_subN (ha : Ev te σ H (vN a)) (hb : Ev tb σ H (vN b)) (h : b ≤ a) : Ev (tOp (rI0 fun i j => .int (i - j)) te tb) σ H (vN (a - b)) := ev_is (ev_op ha hb rv_I0) (by
  show V.int _ = V.int _
  rw [Int.ofNat_sub h])
theorem ev_mulN (ha : Ev te σ H (vN a)) (hb : Ev tb σ H (vN b)) (h : b < 1000000) : Ev (tOp (rI CMul fun i j => .int (i * j)) te tb) σ H (vN (a * b)) := ev_is (ev_op ha hb (rv_I (.inr ⟨by omega, by omega⟩))) (by
  show V.int _ = V.int _
  rw [Int.natCast_mul])
theorem ev_divN (ha : Ev te σ H (vN a)) (hb : Ev tb σ H (vN b)) (h : 0 < b) (h2 : b < 1000000) : Ev (tOp (rI CDivN fun i j => .int (i.fdiv j)) te tb) σ H (vN (a / b)) := ev_is (ev_op ha hb (rv_I ⟨by omega, by omega⟩)) (by
  show V.int _ = V.int _
  rw [Int.fdiv_eq_ediv_of_nonneg _ (by omega), Int.natCast_ediv])
theorem ev_modN (ha : Ev te σ H (vN a)) (hb : Ev tb σ H (vN b)) (h : 0 < b) : Ev (tOp (rI (fun _ j => j ≠ 0) fun i j => .int (i.fmod j)) te tb) σ H (vN (a % b)) := ev_is (ev_op ha hb (rv_I (by
  show (b : Int) ≠ 0
  omega))) (by
  show V.int _ = V.int _
  rw [Int.fmod_eq_emod_of_nonneg _ (by omega), Int.natCast_emod])
/-! ### statements -/
variable {D : Ends} {tz : TS}
theorem s_asgP {i : Nat} (h : EvP te σ H P) (k : ∀ v H1, Ex H H1 → P v H1 → D.nx (σ.set i (some v)) H1) : tAsg te (gName i) D σ H := h H (Ex.refl H) _ k
theorem q_asgP {i : Nat} (h : EvP te σ H P) (k : ∀ v H1, Ex H H1 → P v H1 → tz D (σ.set i (some v)) H1) : tSeq (tAsg te (gName i)) tz D σ H := h H (Ex.refl H) _ k
theorem s_retP (h : EvP te σ H P) (k : ∀ v H1, Ex H H1 → P v H1 → D.rt v H1) : tRet te D σ H := h H (Ex.refl H) _ k
end
/-! ### chains of comparisons -/
section
variable {K : PySem.W.Frag} {σ : L2.St} {H : Hp} {ta tb tc : TE} {x y z : Int}
theorem ev_le2 (ha : Ev ta σ H (.int x)) (hb : Ev tb σ H (.int y)) (hc : Ev tc σ H (.int z)) :
    Ev (tChain (rI0 fun i j => .bl (decide (i ≤ j))) (rI0 fun i j => .bl (decide (i ≤ j))) ta tb tc) σ H (.bl (decide (x ≤ y) && decide (y ≤ z))) := fun H1 e Q q =>
  ha H1 e _ fun H2 e2 => hb H2 (e.trans e2) _ fun H3 e3 => ⟨x, y, rfl, rfl, _, rfl, by
    by_cases c : x ≤ y
    · rw [decide_eq_true c, if_pos rfl]
      refine hc H3 ((e.trans e2).trans e3) _ fun H4 e4 => ⟨y, z, rfl, rfl, ?_⟩
      rw [decide_eq_true c, Bool.true_and] at q
      exact q H4 ((e2.trans e3).trans e4)
    · rw [decide_eq_false c, if_neg Bool.false_ne_true]
      rw [decide_eq_false c, Bool.false_and] at q
      exact q H3 (e2.trans e3)⟩
end
/-! ### a comprehension whose items are new lists -/
def CwL (H : Hp) (l : Nat → List Nat) (Dl : Addr) (i : Nat) (H' : Hp) : Prop := H Dl = none ∧ Ex H H' ∧ ∃ as : List Addr, as.length = i ∧ H' Dl = some (.lst (as.map V.ref)) ∧
  ∀ (j : Nat) (a : Addr), as[j]? = some a → a ≠ Dl ∧ H' a = some (.lst (vL (l j)))
theorem cwl_turn {te : TE} {H H' : Hp} {l : Nat → List Nat} {Dl : Addr} {i : Nat} {σ2 : L2.St} (p : CwL H l Dl i H') (hi : i < 50000) (he : EvL te σ2 H (vL (l i))) :
    tYes σ2 H' fun b H3 => if b = true then te σ2 H3 fun y H4 => ∃ acc, H4 Dl = some (.lst acc) ∧ acc.length < sizeLine ∧ CwL H l Dl (i + 1) (upd H4 Dl (.lst (acc ++ [y]))) else CwL H l Dl (i + 1) H3 := by
  obtain ⟨p1, p2, as, p3, p4, p5⟩ := p
  show te σ2 H' fun y H4 => ∃ acc, H4 Dl = some (.lst acc) ∧ acc.length < sizeLine ∧ CwL H l Dl (i + 1) (upd H4 Dl (.lst (acc ++ [y])))
  refine he H' p2 _ fun q H4 hq e4 h4 => ⟨as.map V.ref, e4 Dl _ p4, sz_lt (by rw [List.length_map]; omega), p1, Ex.mut (p2.trans e4) p1, as ++ [q], ?_, ?_, fun j a hj => ?_⟩
  · rw [List.length_append, p3]
    rfl
  · rw [upd_same, List.map_append]
    rfl
  · have hqD : q ≠ Dl := fun z => by
      rw [z, p4] at hq
      cases hq
    by_cases hl : j < as.length
    · rw [List.getElem?_append_left hl] at hj
      obtain ⟨a1, a2⟩ := p5 j a hj
      exact ⟨a1, by rw [upd_ne a1]; exact e4 a _ a2⟩
    · rw [List.getElem?_append_right (by omega)] at hj
      have hj0 : j - as.length = 0 := by
        have := (List.getElem?_eq_some_iff.mp hj).1
        rw [List.length_singleton] at this
        omega
      rw [hj0] at hj
      have hqa : q = a := Option.some.inj hj
      subst hqa
      refine ⟨hqD, ?_⟩
      rw [upd_ne hqD, show j = i by omega]
      exact h4
theorem CwL.done {K : PySem.W.Frag} {H H' : Hp} {l : Nat → List Nat} {Dl : Addr} {n : Nat} (p : CwL H l Dl n H') : IsNN K ((List.range n).map l) (.ref Dl) H' := by
  obtain ⟨_, _, as, p3, p4, p5⟩ := p
  refine ⟨Dl, as.map V.ref, rfl, sq_of p4, by rw [List.length_map, List.length_map, List.length_range, p3], fun i hi => ?_⟩
  rw [List.length_map, List.length_range] at hi
  have ha : as[i]? = some as[i] := List.getElem?_eq_getElem (by omega)
  obtain ⟨_, a2⟩ := p5 i _ ha
  refine ⟨.ref as[i], by rw [List.getElem?_map, ha]; rfl, as[i], rfl, ?_⟩
  rw [getD_mapR _ _ hi]
  exact sq_of a2
section
variable {K : PySem.W.Frag} {σ : L2.St} {H : Hp} {te : TE}
theorem ep_lcR1L {ta : TA} {j : Nat} {vs : List Nat} {n : Nat} (l : Nat → List Nat) (h : EvA ta σ H [vN n]) (hn : n ≤ 40000) (hw : ∀ x, wipe ((wipe σ vs).set j (some x)) vs = wipe σ vs)
    (he : ∀ (i : Nat) H1, Ex H H1 → i < n → EvL te ((wipe σ vs).set j (some (vN i))) H1 (vL (l i))) :
    EvP (tLc (iRng1 ta) (gName j) tYes te vs) σ H (IsNN K ((List.range n).map l)) := fun H0 e Q q => h H0 e _ fun H1 e1 => ⟨(n : Int), rfl, by omega, by omega, fun Dl hD =>
  lc_range (lo := 0) (n := (n : Int).toNat) (CwL H1 l Dl) ⟨hD, Ex.new hD, [], rfl, upd_same, fun _ _ z => by simp at z⟩ (fun i H' hi p => by
    have e0 : (0 : Int) + (i : Int) = (i : Int) := Int.zero_add _
    show wipe ((wipe σ vs).set j (some (.int ((0 : Int) + (i : Int))))) vs = wipe σ vs ∧ tYes ((wipe σ vs).set j (some (.int ((0 : Int) + (i : Int))))) H' fun b H3 => if b = true then te ((wipe σ vs).set j (some (.int ((0 : Int) + (i : Int))))) H3 fun y H4 => ∃ acc, H4 Dl = some (.lst acc) ∧ acc.length < sizeLine ∧ CwL H1 l Dl (i + 1) (upd H4 Dl (.lst (acc ++ [y]))) else CwL H1 l Dl (i + 1) H3
    rw [e0]
    exact ⟨hw _, cwl_turn p (by omega) (he i H1 (e.trans e1) (by omega))⟩) (fun H' p => q _ H' (e1.trans p.2.1) (by
      have := p.done (K := K)
      rw [show (n : Int).toNat = n from Int.toNat_natCast n] at this
      exact this))⟩
theorem ep_lcLL {tl : TE} {j : Nat} {vs : List Nat} {a : Addr} {xs : List V} (l : Nat → List Nat) (h : Ev tl σ H (.ref a)) (hx : SqL K H a xs) (hz : xs.length ≤ 40000) (hw : ∀ x, wipe ((wipe σ vs).set j (some x)) vs = wipe σ vs)
    (he : ∀ (i : Nat) (x : V) H1, Ex H H1 → xs[i]? = some x → EvL te ((wipe σ vs).set j (some x)) H1 (vL (l i))) :
    EvP (tLc (iList K tl) (gName j) tYes te vs) σ H (IsNN K ((List.range xs.length).map l)) := fun H0 e Q q => h H0 e _ fun H1 e1 => ⟨a, rfl, ⟨xs, ex_l (e.trans e1) hx⟩, fun Dl hD =>
  lc_list (xs := xs) (CwL H1 l Dl) ⟨hD, Ex.new hD, [], rfl, upd_same, fun _ _ z => by simp at z⟩ (fun i H' _ p => ex_l ((e.trans e1).trans p.2.1) hx)
    (fun i x H' hi p => ⟨hw x, cwl_turn p (by have := (List.getElem?_eq_some_iff.mp hi).1; omega) (he i x H1 (e.trans e1) hi)⟩) (fun H' p => q _ H' (e1.trans p.2.1) p.done)⟩
/-- [.. for i, x in enumerate(xs) if ..] -/
theorem el_lcE {ta : TA} {t : TT} {j1 j2 : Nat} {vs : List Nat} {xs : List V} (f : Nat → Bool) (v : Nat → V) (h : EvAP ta σ H (fun us H1 => ∃ a, us = [.ref a] ∧ SqL K H1 a xs)) (hz : xs.length ≤ 40000)
    (hw : ∀ x y, wipe (((wipe σ vs).set j1 (some x)).set j2 (some y)) vs = wipe σ vs)
    (ht : ∀ (i : Nat) (x : V) H1, Ex H H1 → xs[i]? = some x → EvT t (((wipe σ vs).set j1 (some (vN i))).set j2 (some x)) H1 (f i))
    (he : ∀ (i : Nat) (x : V) H1, Ex H H1 → xs[i]? = some x → f i = true → Ev te (((wipe σ vs).set j1 (some (vN i))).set j2 (some x)) H1 (v i)) :
    EvL (tLc (iEnum K ta) (gTup K 2 (gCons (gName j1) (gCons (gName j2) gNil))) t te vs) σ H (given xs.length f v) := fun H0 e Q q => h H0 e _ fun us H1 e1 ⟨a, hu, hx⟩ => ⟨a, xs, hu, hx, fun Dl hD =>
  lc_it (walk_enum (K := K) (a := a) (xs := xs)) (Cw H1 f v Dl) ⟨hD, Ex.new hD, upd_same⟩ (fun i H' _ p => ex_l p.2.1 hx) (fun i y H2 H3 hi p hy => by
    obtain ⟨T, x1, x2, rfl, nT, rfl, f1, f2⟩ := hy
    cases f1
    have p' : Cw H1 f v Dl i (upd H2 T (.tup [vN i, x2])) := ⟨p.1, p.2.1.trans (Ex.new nT), by
      have := p.2.2
      rw [upd_ne (ne_of_none this nT)]
      exact this⟩
    exact ⟨T, [vN i, x2], rfl, .inl (.inl upd_same), rfl, vN i, [x2], rfl, x2, [], rfl, rfl, hw _ _, cw_turn p' (by omega) (ht i x2 H1 (e.trans e1) f2) (fun hf => he i x2 H1 (e.trans e1) f2 hf)⟩)
    (fun H' p => q Dl H' (fresh_back e1 p.1) (e1.trans p.2.1) p.2.2)⟩
theorem given_all {n : Nat} {v : Nat → V} : given n (fun _ => true) v = (List.range n).map v := by
  unfold given
  rw [List.filter_eq_self.mpr fun _ _ => rfl]
theorem given_N {n : Nat} {f : Nat → Bool} {g : Nat → Nat} : given n f (fun i => vN (g i)) = vL (((List.range n).filter f).map g) := by
  unfold given
  show _ = List.map vN (List.map g _)
  rw [List.map_map]
  rfl
end
/-! ### more words -/
section
variable {K : PySem.W.Frag} {σ : L2.St} {H : Hp} {ta tb te : TE}
theorem cut_one (l : List Nat) : cutV (vL l) (some 1) none = vL (l.drop 1) := by
  unfold cutV
  rw [show HT.sIx (vL l).length 0 (some 1) = min 1 (vL l).length from HT.sIx_nat _ 0 1, HT.sIx_none]
  cases l with
  | nil => rfl
  | cons x r =>
    rw [vL_len, show min 1 (x :: r).length = 1 by
      rw [List.length_cons]
      omega]
    show (List.take ((x :: r).length - 1) (vL r)) = vL r
    rw [List.length_cons, Nat.add_sub_cancel]
    exact List.take_of_length_le (by rw [vL_len]; exact Nat.le_refl _)
theorem el_cat {xs ys : List V} (ha : EvL ta σ H xs) (hb : EvL tb σ H ys) (hz : xs.length + ys.length ≤ 100000) : EvL (tOp rCat ta tb) σ H (xs ++ ys) := fun H1 e Q q =>
  ha H1 e _ fun a H2 _ e2 h2 => hb H2 (e.trans e2) _ fun b H3 _ e3 h3 => ⟨a, b, xs, ys, rfl, rfl, e3 a _ h2, h3, sz_of hz, fun p hp => q p _ (fresh_back (e2.trans e3) hp) ((e2.trans e3).trans (Ex.new hp)) upd_same⟩
theorem ev_sumN {l : List Nat} (h : EvL te σ H (vL l)) : Ev (tCB (rSum K) (tCons te tNil)) σ H (vN l.sum) := fun H1 e Q q =>
  h H1 e _ fun a H2 _ e2 h2 => ⟨a, l.map fun n : Nat => (n : Int), rfl, sq_of (by rw [h2, vL_ints]), by
    rw [sum_cast]
    exact q H2 e2⟩
theorem et_len0 {a : Addr} {l : List V} (h : Ev te σ H (.ref a)) (hs : SqL K H a l) : EvT (tTest (tOp rEq (tCB (rLenS K) (tCons te tNil)) (tC (.int 0)))) σ H (decide (l.length = 0)) :=
  et_is (et_test (ev_op (ev_len h hs) ev_c (rv_eq rfl))) (by
    rw [Bool.eq_iff_iff, decide_eq_true_iff, decide_eq_true_iff]
    constructor
    · intro z
      have := V.int.inj z
      omega
    · intro z
      rw [z]
      rfl)
theorem ev_allB {bs : List Bool} (h : EvL te σ H (bs.map V.bl)) : Ev (tCB (rAll K) (tCons te tNil)) σ H (.bl (bs.all id)) := fun H1 e Q q =>
  h H1 e _ fun a H2 _ e2 h2 => ⟨a, bs, rfl, sq_of h2, q H2 e2⟩
theorem vL_app (a b : List Nat) : vL (a ++ b) = vL a ++ vL b := List.map_append
theorem vL_snoc (a : List Nat) (n : Nat) : vL a ++ [vN n] = vL (a ++ [n]) := (List.map_append (f := vN) (l₁ := a) (l₂ := [n])).symm
theorem vN_add (a b : Nat) : V.int ((a : Int) + (b : Int)) = vN (a + b) := by
  show V.int _ = V.int _
  rw [Int.natCast_add]
/-- all of the tests of a list's places: all of its items -/
theorem all_range {l : List Nat} {f : Nat → Bool} : (((List.range l.length).map fun i => f (l.getD i 0)).all id) = l.all f := by
  rw [Bool.eq_iff_iff, List.all_eq_true, List.all_eq_true]
  constructor
  · intro h x hx
    obtain ⟨i, hi, rfl⟩ := List.getElem_of_mem hx
    have := h _ (List.mem_map.mpr ⟨i, List.mem_range.mpr hi, rfl⟩)
    rw [List.getD_eq_getElem?_getD, List.getElem?_eq_getElem hi] at this
    exact this
  · intro h x hx
    obtain ⟨i, hi, rfl⟩ := List.mem_map.mp hx
    exact h _ (getD_mem (List.mem_range.mp hi))
end
/-! ### the request's numbers -/
theorem nats_cast : ∀ {h : List Int}, (∀ x, x ∈ h → 0 ≤ x) → ((h.map Int.toNat).map fun n : Nat => (n : Int)) = h
  | [], _ => rfl
  | x :: h, hx => by
    have ih := nats_cast (h := h) fun y hy => hx y (List.mem_cons_of_mem _ hy)
    have h0 := hx x List.mem_cons_self
    rw [List.map_cons, List.map_cons, ih, Int.toNat_of_nonneg h0]
theorem ints_vL {h : List Int} (hx : ∀ x, x ∈ h → 0 ≤ x) : h.map V.int = vL (h.map Int.toNat) := by
  rw [vL_ints, nats_cast hx]
theorem nat_of {z : Int} {b : Nat} (h : (decide (0 ≤ z) && decide (z < 2 ^ b)) = true) : 0 ≤ z := by
  rw [Bool.and_eq_true] at h
  exact of_decide_eq_true h.1
theorem ans_map (a : Int) (l : List Nat) : ((a :: l.map fun n : Nat => (n : Int)).map V.int) = V.int a :: vL l := by
  rw [List.map_cons, vL_ints]
theorem lt_toNat {q : Int} (hq : 0 ≤ q) (x : Nat) : decide ((x : Int) < q) = decide (x < q.toNat) := by
  rw [Bool.eq_iff_iff, decide_eq_true_iff, decide_eq_true_iff]
  omega
/-! ### bits, equal numbers -/
section
variable {K : PySem.W.Frag} {σ : L2.St} {H : Hp} {ta tb te : TE} {a b : Nat}
theorem ev_xorN (ha : Ev ta σ H (vN a)) (hb : Ev tb σ H (vN b)) : Ev (tOp (rI0 fun i j => .int (Builtin.bitXor i j)) ta tb) σ H (vN (a ^^^ b)) := ev_is (ev_op ha hb rv_I0) (by
  show V.int _ = V.int _
  rw [Bits.bitXor_pp (by omega) (by omega), Int.toNat_natCast, Int.toNat_natCast])
theorem ev_andN (ha : Ev ta σ H (vN a)) (hb : Ev tb σ H (vN b)) : Ev (tOp (rI0 fun i j => .int (Builtin.bitAnd i j)) ta tb) σ H (vN (a &&& b)) := ev_is (ev_op ha hb rv_I0) (by
  show V.int _ = V.int _
  rw [PyProof.Rows.bitAnd_pp (by omega) (by omega), Int.toNat_natCast, Int.toNat_natCast])
theorem ev_shrN (ha : Ev ta σ H (vN a)) (hb : Ev tb σ H (vN b)) : Ev (tOp (rI (fun _ j => 0 ≤ j) fun i j => .int (i / 2 ^ j.toNat)) ta tb) σ H (vN (a >>> b)) := ev_is (ev_op ha hb (rv_I (by
  show (0 : Int) ≤ (b : Int)
  omega))) (by
  show V.int _ = V.int _
  rw [Int.toNat_natCast, Nat.shiftRight_eq_div_pow, Int.natCast_ediv, Int.natCast_pow]
  rfl)
theorem dec_vN (a b : Nat) : decide (vN a = vN b) = (a == b) := by
  rw [Bool.eq_iff_iff, decide_eq_true_iff, beq_iff_eq]
  constructor
  · intro h
    have := V.int.inj h
    omega
  · intro h
    rw [h]
theorem ev_eqN (ha : Ev ta σ H (vN a)) (hb : Ev tb σ H (vN b)) : Ev (tOp rEq ta tb) σ H (.bl (a == b)) := ev_is (ev_op ha hb (rv_eq rfl)) (by rw [dec_vN])
theorem et_eqN (ha : Ev ta σ H (vN a)) (hb : Ev tb σ H (vN b)) : EvT (tTest (tOp rEq ta tb)) σ H (a == b) := et_test (ev_eqN ha hb)
theorem ev_neN (ha : Ev ta σ H (vN a)) (hb : Ev tb σ H (vN b)) : Ev (tOp rNe ta tb) σ H (.bl (!(a == b))) := ev_is (ev_op ha hb (rv_ne rfl)) (by rw [dec_vN])
theorem et_neN (ha : Ev ta σ H (vN a)) (hb : Ev tb σ H (vN b)) : EvT (tTest (tOp rNe ta tb)) σ H (!(a == b)) := et_test (ev_neN ha hb)
theorem ev_ixN {p : Addr} {l : List Nat} {i : Nat} (ha : Ev ta σ H (.ref p)) (hb : Ev tb σ H (vN i)) (hs : SqL K H p (vL l)) (hi : i < l.length) : Ev (tOp (rIxL K) ta tb) σ H (vN (l.getD i 0)) := ev_op ha hb (rv_ixL hs (atI_vL hi))
theorem ev_lenN' {p : Addr} {l : List Nat} (ha : Ev ta σ H (.ref p)) (hs : SqL K H p (vL l)) : Ev (tCB (rLenS K) (tCons ta tNil)) σ H (vN l.length) := ev_is (ev_len ha hs) (by rw [vL_len])
theorem ev_lit (n : Nat) : Ev (tC (.int (n : Int))) σ H (vN n) := ev_c
end
/-- a fact told by its other truth -/
theorem b_not {b : Bool} (h : (!b) = true) : b = false := by
  cases b with
  | false => rfl
  | true => cases h
theorem b_yes {b : Bool} (h : (!b) = false) : b = true := by
  cases b with
  | true => rfl
  | false => cases h
theorem sz_lt' {n : Nat} (h : n < 4000000) : n < sizeLine := Nat.lt_of_lt_of_le h (by decide)
end Hb

namespace Cyc
open Sn88

/-! lists -/
theorem len_le_of_nodup : ∀ {l p : List Nat}, l.Nodup → (∀ x, x ∈ l → x ∈ p) → l.length ≤ p.length
  | [], _, _, _ => Nat.zero_le _
  | a :: l, p, hn, hs => by
    have ha : a ∈ p := hs a List.mem_cons_self
    have hn' := List.nodup_cons.mp hn
    have ih := len_le_of_nodup (l := l) (p := p.erase a) hn'.2 (fun x hx => by
      have hxa : x ≠ a := fun e => hn'.1 (e ▸ hx)
      exact (List.mem_erase_of_ne hxa).mpr (hs x (List.mem_cons_of_mem _ hx)))
    have hl := List.length_erase_of_mem ha
    have hp : 0 < p.length := List.length_pos_of_mem ha
    rw [List.length_cons]
    omega
theorem perm_of_nodup : ∀ {l p : List Nat}, l.Nodup → (∀ x, x ∈ l → x ∈ p) → p.length ≤ l.length → p.Perm l
  | [], p, _, _, h => by
    have e : p = [] := List.eq_nil_of_length_eq_zero (Nat.le_zero.mp h)
    rw [e]
  | a :: l, p, hn, hs, h => by
    have ha : a ∈ p := hs a List.mem_cons_self
    have hn' := List.nodup_cons.mp hn
    have hl := List.length_erase_of_mem ha
    have hp : 0 < p.length := List.length_pos_of_mem ha
    have ih := perm_of_nodup (l := l) (p := p.erase a) hn'.2 (fun x hx => by
      have hxa : x ≠ a := fun e => hn'.1 (e ▸ hx)
      exact (List.mem_erase_of_ne hxa).mpr (hs x (List.mem_cons_of_mem _ hx))) (by rw [List.length_cons] at h; omega)
    exact (List.perm_cons_erase ha).trans (List.Perm.cons a ih)

theorem isOrder_iff {n : Nat} {p : List Nat} : isOrder n p = true ↔ p.Perm (List.range n) := by
  unfold isOrder
  rw [Bool.and_eq_true, beq_iff_eq, List.all_eq_true]
  constructor
  · rintro ⟨h1, h2⟩
    exact perm_of_nodup List.nodup_range (fun x hx => by simpa using h2 x hx) (by rw [List.length_range]; omega)
  · intro h
    refine ⟨by rw [h.length_eq, List.length_range], fun x hx => ?_⟩
    simpa using h.mem_iff.mpr hx

/-! an order -/
structure Ord (n : Nat) (p : List Nat) : Prop where
  len : p.length = n
  lt : ∀ i, i < n → p.getD i 0 < n
  inj : ∀ i j, i < n → j < n → p.getD i 0 = p.getD j 0 → i = j

theorem Ord.of {n : Nat} {p : List Nat} (h : isOrder n p = true) : Ord n p := by
  have hp := isOrder_iff.mp h
  have hl : p.length = n := by rw [hp.length_eq, List.length_range]
  have hn : p.Nodup := (hp.nodup_iff).mpr List.nodup_range
  have g : ∀ i (hi : i < p.length), p.getD i 0 = p[i] := fun i hi => by rw [List.getD_eq_getElem?_getD, List.getElem?_eq_getElem hi]; rfl
  refine ⟨hl, fun i hi => ?_, fun i j hi hj e => ?_⟩
  · rw [g i (by omega)]
    exact List.mem_range.mp (hp.mem_iff.mp (List.getElem_mem _))
  · rw [g i (by omega), g j (by omega)] at e
    exact (List.getElem_inj hn).mp e

section
variable {n : Nat} {p : List Nat}
theorem along_add (p : List Nat) (i a : Nat) : ∀ b, along p i (a + b) = along p (along p i a) b
  | 0 => rfl
  | b + 1 => by
    show p.getD (along p i (a + b)) 0 = p.getD (along p (along p i a) b) 0
    rw [along_add p i a b]
theorem along_comm (p : List Nat) (i a b : Nat) : along p (along p i a) b = along p (along p i b) a := by
  rw [← along_add, ← along_add, Nat.add_comm]
theorem along_lt (h : Ord n p) {i : Nat} (hi : i < n) : ∀ k, along p i k < n
  | 0 => hi
  | k + 1 => h.lt _ (along_lt h hi k)
theorem along_inj (h : Ord n p) {i j : Nat} (hi : i < n) (hj : j < n) : ∀ a, along p i a = along p j a → i = j
  | 0, e => e
  | a + 1, e => along_inj h hi hj a (h.inj _ _ (along_lt h hi a) (along_lt h hj a) e)
theorem back (h : Ord n p) {i : Nat} (hi : i < n) : ∃ k, 1 ≤ k ∧ k ≤ n ∧ along p i k = i := by
  refine Classical.byContradiction fun hno => ?_
  have key : ∀ k, 1 ≤ k → k ≤ n → along p i k ≠ i := fun k h1 h2 e => hno ⟨k, h1, h2, e⟩
  have nd : ((List.range (n + 1)).map (along p i)).Nodup := by
    rw [List.nodup_iff_pairwise_ne, List.pairwise_map]
    have : (List.range (n + 1)).Pairwise (fun a b => a < b ∧ b < n + 1) := by
      rw [List.pairwise_iff_getElem]
      intro a b ha hb hab
      simp only [List.length_range] at ha hb
      simp only [List.getElem_range]
      omega
    refine this.imp ?_
    rintro a b ⟨hab, hb⟩ e
    have e2 : along p (along p i a) (b - a) = along p i a := by
      rw [← along_add, show a + (b - a) = b by omega]
      exact e.symm
    rw [along_comm] at e2
    exact key (b - a) (by omega) (by omega) (along_inj h (along_lt h hi _) hi a e2)
  have hle := len_le_of_nodup (p := List.range n) nd (fun x hx => by
    obtain ⟨k, _, rfl⟩ := List.mem_map.mp hx
    exact List.mem_range.mpr (along_lt h hi k))
  rw [List.length_map, List.length_range, List.length_range] at hle
  omega

theorem find_up {f : Nat → Bool} {m k : Nat} (h1 : 1 ≤ k) (h2 : k ≤ m) (hf : f k = true) (hlt : ∀ j, 1 ≤ j → j < k → f j = false) :
    ((List.range m).map fun k => k + 1).find? f = some k := by
  rw [List.find?_map]
  have : (List.range m).find? (f ∘ fun k => k + 1) = some (k - 1) := by
    rw [List.find?_range_eq_some]
    refine ⟨?_, List.mem_range.mpr (by omega), fun j hj => ?_⟩
    · show f (k - 1 + 1) = true
      rw [show k - 1 + 1 = k by omega]
      exact hf
    · show (!f (j + 1)) = true
      rw [hlt (j + 1) (by omega) (by omega)]
      rfl
  rw [this]
  show some (k - 1 + 1) = some k
  rw [show k - 1 + 1 = k by omega]

theorem least_of {f : Nat → Prop} [DecidablePred f] : ∀ (m : Nat), (∃ k, 1 ≤ k ∧ k ≤ m ∧ f k) → ∃ k, 1 ≤ k ∧ k ≤ m ∧ f k ∧ ∀ j, 1 ≤ j → j < k → ¬ f j
  | 0, ⟨k, h1, h2, _⟩ => by omega
  | m + 1, ⟨k, h1, h2, hf⟩ => by
    by_cases hm : ∃ k, 1 ≤ k ∧ k ≤ m ∧ f k
    · obtain ⟨k', a, b, c, d⟩ := least_of m hm
      exact ⟨k', a, by omega, c, d⟩
    · have hk : k = m + 1 := by
        refine Classical.byContradiction fun hne => hm ⟨k, h1, by omega, hf⟩
      subst hk
      exact ⟨m + 1, h1, Nat.le_refl _, hf, fun j hj1 hj2 hj => hm ⟨j, hj1, by omega, hj⟩⟩

structure Opn (p : List Nat) (i L : Nat) : Prop where
  pos : 1 ≤ L
  at_ : along p i L = i
  non : ∀ m, 1 ≤ m → m < L → along p i m ≠ i

theorem opens_spec (h : Ord n p) {i : Nat} (hi : i < n) : Opn p i (opens p i) ∧ opens p i ≤ n := by
  obtain ⟨k, h1, h2, h3, h4⟩ := least_of (f := fun k => along p i k = i) n (back h hi)
  have e : opens p i = k := by
    unfold opens
    rw [find_up h1 (by rw [h.len]; exact h2) (by rw [h3]; exact beq_self_eq_true _) (fun j a b => by
      exact beq_eq_false_iff_ne.mpr (h4 j a b))]
    rfl
  rw [e]
  exact ⟨⟨h1, h3, h4⟩, h2⟩
theorem opens_le (h : Ord n p) {i m : Nat} (hi : i < n) (h1 : 1 ≤ m) (e : along p i m = i) : opens p i ≤ m := by
  refine Nat.not_lt.mp fun hlt => ?_
  exact (opens_spec h hi).1.non m h1 hlt e
theorem opens_gt (h : Ord n p) {i k : Nat} (hi : i < n) (hk : ∀ m, 1 ≤ m → m ≤ k → along p i m ≠ i) : k < opens p i := by
  refine Nat.not_le.mp fun hle => ?_
  have s := (opens_spec h hi).1
  exact hk _ s.pos hle s.at_

theorem along_mul (p : List Nat) {i L : Nat} (e : along p i L = i) : ∀ t, along p i (L * t) = i
  | 0 => rfl
  | t + 1 => by
    rw [Nat.mul_succ, along_add, along_mul p e t, e]
theorem along_mod (p : List Nat) {i L : Nat} (e : along p i L = i) (m : Nat) : along p i m = along p i (m % L) := by
  conv => lhs; rw [← Nat.div_add_mod m L]
  rw [along_add, along_mul p e]

def round (p : List Nat) (b : Nat) : List Nat := (List.range (opens p b)).map (along p b)
theorem round_len (p : List Nat) (b : Nat) : (round p b).length = opens p b := by
  unfold round
  rw [List.length_map, List.length_range]
theorem mem_round (h : Ord n p) {b x : Nat} (hb : b < n) : x ∈ round p b ↔ ∃ e, along p b e = x := by
  unfold round
  rw [List.mem_map]
  constructor
  · rintro ⟨e, _, he⟩
    exact ⟨e, he⟩
  · rintro ⟨e, he⟩
    have s := (opens_spec h hb).1
    exact ⟨e % opens p b, List.mem_range.mpr (Nat.mod_lt _ s.pos), by rw [← along_mod p s.at_]; exact he⟩
/-- on one round -/
def On (p : List Nat) (b x : Nat) : Prop := ∃ e, along p b e = x
theorem On.refl (p : List Nat) (b : Nat) : On p b b := ⟨0, rfl⟩
theorem On.trans {a b c : Nat} : On p a b → On p b c → On p a c
  | ⟨e, he⟩, ⟨f, hf⟩ => ⟨e + f, by rw [along_add, he, hf]⟩
theorem On.symm (h : Ord n p) {b x : Nat} (hb : b < n) : On p b x → On p x b
  | ⟨e, he⟩ => by
    have s := (opens_spec h hb).1
    refine ⟨opens p b * (e + 1) - e, ?_⟩
    have hle : e ≤ opens p b * (e + 1) := by
      have : 1 * (e + 1) ≤ opens p b * (e + 1) := Nat.mul_le_mul_right _ s.pos
      omega
    rw [← he, ← along_add, show e + (opens p b * (e + 1) - e) = opens p b * (e + 1) by omega]
    exact along_mul p s.at_ _
theorem On.lt (h : Ord n p) {b x : Nat} (hb : b < n) : On p b x → x < n
  | ⟨e, he⟩ => he ▸ along_lt h hb e
theorem On.opens_le (h : Ord n p) {b x : Nat} (hb : b < n) : On p b x → opens p x ≤ opens p b
  | ⟨e, he⟩ => by
    have s := (opens_spec h hb).1
    refine Cyc.opens_le h (On.lt h hb ⟨e, he⟩) s.pos ?_
    rw [← he, along_comm, s.at_]
theorem On.opens (h : Ord n p) {b x : Nat} (hb : b < n) (o : On p b x) : Sn88.opens p x = Sn88.opens p b :=
  Nat.le_antisymm (o.opens_le h hb) ((o.symm h hb).opens_le h (o.lt h hb))
/-- a step below the round's length -/
theorem On.step (h : Ord n p) {b x : Nat} (hb : b < n) (o : On p b x) : ∃ e, e < Sn88.opens p b ∧ along p b e = x := by
  obtain ⟨e, he⟩ := o
  have s := (opens_spec h hb).1
  exact ⟨e % Sn88.opens p b, Nat.mod_lt _ s.pos, by rw [← along_mod p s.at_]; exact he⟩
/-- two places of a round -/
theorem along_ne (h : Ord n p) {b e f : Nat} (hb : b < n) (he : e < f) (hf : f < Sn88.opens p b) : along p b e ≠ along p b f := fun q => by
  have s := (opens_spec h hb).1
  have e2 : along p (along p b e) (f - e) = along p b e := by
    rw [← along_add, show e + (f - e) = f by omega]
    exact q.symm
  rw [along_comm] at e2
  exact s.non (f - e) (by omega) (by omega) (along_inj h (along_lt h hb _) hb e e2)

/-! the rounds, each from its least box on -/
def leads (p : List Nat) : Nat → List Nat
  | 0 => []
  | i + 1 => if (leads p i).any (fun c => (round p c).contains i) = true then leads p i else leads p i ++ [i]
def known (p : List Nat) (i b : Nat) : Bool := (leads p i).any fun c => (round p c).contains b
theorem leads_lt : ∀ {i c : Nat}, c ∈ leads p i → c < i
  | 0, c, h => by simp [leads] at h
  | i + 1, c, h => by
    unfold leads at h
    split at h
    · exact Nat.lt_succ_of_lt (leads_lt h)
    · rcases List.mem_append.mp h with h | h
      · exact Nat.lt_succ_of_lt (leads_lt h)
      · rw [List.mem_singleton.mp h]
        exact Nat.lt_succ_self _
theorem leads_sub {i c : Nat} : ∀ {j : Nat}, c ∈ leads p i → i ≤ j → c ∈ leads p j
  | 0, h, hj => by
    have e : i = 0 := by omega
    rw [← e]
    exact h
  | j + 1, h, hj => by
    by_cases e : i = j + 1
    · rw [← e]
      exact h
    · have ih := leads_sub (j := j) h (by omega)
      unfold leads
      split
      · exact ih
      · exact List.mem_append_left _ ih
theorem leads_up : ∀ (i : Nat), (leads p i).Pairwise (· < ·)
  | 0 => List.Pairwise.nil
  | i + 1 => by
    unfold leads
    split
    · exact leads_up i
    · rw [List.pairwise_append]
      refine ⟨leads_up i, List.pairwise_singleton _ _, fun a ha b hb => ?_⟩
      rw [List.mem_singleton.mp hb]
      exact leads_lt ha
theorem cover (h : Ord n p) : ∀ {i b : Nat}, b < i → i ≤ n → ∃ c, c ∈ leads p i ∧ c ≤ b ∧ On p c b
  | i + 1, b, hb, hi => by
    by_cases e : b = i
    · subst e
      by_cases k : (leads p b).any (fun c => (round p c).contains b) = true
      · obtain ⟨c, hc, hr⟩ := List.any_eq_true.mp k
        have hcl := leads_lt hc
        refine ⟨c, leads_sub hc (Nat.le_succ _), Nat.le_of_lt hcl, (mem_round h (by omega)).mp (by simpa using hr)⟩
      · refine ⟨b, ?_, Nat.le_refl _, On.refl p b⟩
        unfold leads
        rw [if_neg k]
        exact List.mem_append_right _ List.mem_cons_self
    · obtain ⟨c, hc, h1, h2⟩ := cover h (i := i) (b := b) (by omega) (by omega)
      exact ⟨c, leads_sub hc (Nat.le_succ _), h1, h2⟩
theorem leads_new : ∀ {i c : Nat}, c ∈ leads p i → ¬ (leads p c).any (fun d => (round p d).contains c) = true
  | 0, c, h => by simp [leads] at h
  | i + 1, c, h => by
    unfold leads at h
    split at h
    · exact leads_new h
    · rename_i hk
      rcases List.mem_append.mp h with h | h
      · exact leads_new h
      · rw [List.mem_singleton.mp h]
        exact hk
theorem leads_least (h : Ord n p) {c x : Nat} (hc : c ∈ leads p n) (o : On p c x) : c ≤ x := by
  refine Nat.not_lt.mp fun hlt => ?_
  have hcn := leads_lt hc
  obtain ⟨d, hd, hdx, od⟩ := cover h (i := c) (b := x) hlt (Nat.le_of_lt hcn)
  refine leads_new hc (List.any_eq_true.mpr ⟨d, hd, ?_⟩)
  have : c ∈ round p d := (mem_round h (Nat.lt_of_lt_of_le (leads_lt hd) (Nat.le_of_lt hcn))).mpr (od.trans (o.symm h hcn))
  simpa using this
theorem leads_apart (h : Ord n p) {c d : Nat} (hc : c ∈ leads p n) (hd : d ∈ leads p n) (o : On p c d) : c = d :=
  Nat.le_antisymm (leads_least h hc o) (leads_least h hd (o.symm h (leads_lt hc)))

def longs (p : List Nat) (k : Nat) : List Nat := (leads p p.length).filter fun c => decide (k < opens p c)

theorem all_iff (k : Nat) : all k p = true ↔ ∀ i, i < p.length → opens p i ≤ k := by
  unfold all
  rw [List.all_eq_true]
  constructor
  · intro hh i hi
    exact of_decide_eq_true (hh i (List.mem_range.mpr hi))
  · intro hh i hi
    exact decide_eq_true (hh i (List.mem_range.mp hi))
theorem longs_nil (h : Ord n p) (k : Nat) : longs p k = [] ↔ all k p = true := by
  rw [all_iff]
  have hl := h.len
  constructor
  · intro e i hi
    obtain ⟨c, hc, _, o⟩ := cover h (i := n) (b := i) (by omega) (Nat.le_refl _)
    rw [o.opens h (leads_lt hc)]
    refine Nat.not_lt.mp fun hlt => ?_
    have hm : c ∈ longs p k := List.mem_filter.mpr ⟨by rw [hl]; exact hc, decide_eq_true hlt⟩
    rw [e] at hm
    cases hm
  · intro hh
    refine List.filter_eq_nil_iff.mpr fun c hc => ?_
    have hlt := leads_lt hc
    have := hh c hlt
    rw [decide_eq_true_iff]
    omega
end
end Cyc

namespace Cyc
open Sn88
section
variable {n : Nat} {p : List Nat}
theorem getD_exch (h : p.length = n) {i j : Nat} (hi : i < n) (hj : j < n) (x : Nat) :
    (exchanged p i j).getD x 0 = if x = j then p.getD i 0 else if x = i then p.getD j 0 else p.getD x 0 := by
  unfold exchanged
  simp only [List.getD_eq_getElem?_getD, List.getElem?_set, List.length_set]
  by_cases e1 : x = j
  · subst e1
    simp [h, hj]
  · have e1' : ¬ j = x := fun q => e1 q.symm
    rw [if_neg e1', if_neg e1]
    by_cases e2 : x = i
    · subst e2
      simp [h, hi]
    · have e2' : ¬ i = x := fun q => e2 q.symm
      rw [if_neg e2', if_neg e2]
theorem exch_ord (h : Ord n p) {i j : Nat} (hi : i < n) (hj : j < n) : Ord n (exchanged p i j) := by
  refine ⟨?_, fun x hx => ?_, fun x y hx hy e => ?_⟩
  · unfold exchanged
    rw [List.length_set, List.length_set, h.len]
  · rw [getD_exch h.len hi hj]
    split
    · exact h.lt i hi
    · split
      · exact h.lt j hj
      · exact h.lt x hx
  · rw [getD_exch h.len hi hj, getD_exch h.len hi hj] at e
    by_cases a : x = j
    · rw [if_pos a] at e
      by_cases b : y = j
      · omega
      · rw [if_neg b] at e
        by_cases c : y = i
        · rw [if_pos c] at e
          have := h.inj _ _ hi hj e
          omega
        · rw [if_neg c] at e
          have := h.inj _ _ hi hy e
          omega
    · rw [if_neg a] at e
      by_cases a2 : x = i
      · rw [if_pos a2] at e
        by_cases b : y = j
        · rw [if_pos b] at e
          have := h.inj _ _ hj hi e
          omega
        · rw [if_neg b] at e
          by_cases c : y = i
          · omega
          · rw [if_neg c] at e
            have := h.inj _ _ hj hy e
            omega
      · rw [if_neg a2] at e
        by_cases b : y = j
        · rw [if_pos b] at e
          have := h.inj _ _ hx hi e
          omega
        · rw [if_neg b] at e
          by_cases c : y = i
          · rw [if_pos c] at e
            have := h.inj _ _ hx hj e
            omega
          · rw [if_neg c] at e
            exact h.inj _ _ hx hy e

variable {i j : Nat}
theorem same_walk (hl : p.length = n) (hi : i < n) (hj : j < n) {x : Nat} : ∀ (m : Nat), (∀ e, e < m → along p x e ≠ i ∧ along p x e ≠ j) → along (exchanged p i j) x m = along p x m
  | 0, _ => rfl
  | m + 1, h => by
    show (exchanged p i j).getD (along (exchanged p i j) x m) 0 = p.getD (along p x m) 0
    rw [same_walk hl hi hj m (fun e he => h e (by omega)), getD_exch hl hi hj]
    have := h m (Nat.lt_succ_self m)
    rw [if_neg this.2, if_neg this.1]
theorem walk_j (hl : p.length = n) (hi : i < n) (hj : j < n) : ∀ (m : Nat), (∀ e, 1 ≤ e → e ≤ m → along p i e ≠ i ∧ along p i e ≠ j) → along (exchanged p i j) j (m + 1) = along p i (m + 1)
  | 0, _ => by
    show (exchanged p i j).getD j 0 = p.getD i 0
    rw [getD_exch hl hi hj, if_pos rfl]
  | m + 1, h => by
    show (exchanged p i j).getD (along (exchanged p i j) j (m + 1)) 0 = p.getD (along p i (m + 1)) 0
    rw [walk_j hl hi hj m (fun e h1 h2 => h e h1 (by omega)), getD_exch hl hi hj]
    have := h (m + 1) (by omega) (Nat.le_refl _)
    rw [if_neg this.2, if_neg this.1]
theorem walk_i (hl : p.length = n) (hi : i < n) (hj : j < n) (hij : i ≠ j) : ∀ (m : Nat), (∀ e, 1 ≤ e → e ≤ m → along p j e ≠ i ∧ along p j e ≠ j) → along (exchanged p i j) i (m + 1) = along p j (m + 1)
  | 0, _ => by
    show (exchanged p i j).getD i 0 = p.getD j 0
    rw [getD_exch hl hi hj, if_neg hij, if_pos rfl]
  | m + 1, h => by
    show (exchanged p i j).getD (along (exchanged p i j) i (m + 1)) 0 = p.getD (along p j (m + 1)) 0
    rw [walk_i hl hi hj hij m (fun e h1 h2 => h e h1 (by omega)), getD_exch hl hi hj]
    have := h (m + 1) (by omega) (Nat.le_refl _)
    rw [if_neg this.2, if_neg this.1]

/-- an exchange by which all find theirs touches every round that is too long, twice -/
theorem both (h : Ord n p) (hi : i < n) (hj : j < n) (hij : i ≠ j) {k x : Nat} (ok : all k (exchanged p i j) = true) (hx : x < n) (hk : k < opens p x) : On p x i ∧ On p x j := by
  have h' := exch_ord h hi hj
  have ok' := (all_iff (p := exchanged p i j) k).mp ok
  have no : ∀ y, y < n → (∀ m, 1 ≤ m → m ≤ k → along (exchanged p i j) y m ≠ y) → False := fun y hy hm => by
    have a := opens_gt h' hy hm
    have b := ok' y (by rw [h'.len]; exact hy)
    omega
  have oi : On p x i → opens p i = opens p x := fun o => o.opens h hx
  have oj : On p x j → opens p j = opens p x := fun o => o.opens h hx
  refine ⟨Classical.byContradiction fun ni => ?_, Classical.byContradiction fun nj => ?_⟩
  · by_cases o : On p x j
    · have nij : ∀ e, along p j e ≠ i := fun e q => ni (o.trans ⟨e, q⟩)
      have lj := oj o
      refine no i hi fun m h1 h2 q => ?_
      obtain ⟨m', rfl⟩ : ∃ m', m = m' + 1 := ⟨m - 1, by omega⟩
      rw [walk_i h.len hi hj hij m' (fun e a b => ⟨nij e, (opens_spec h hj).1.non e a (by omega)⟩)] at q
      exact nij _ q
    · refine no x hx fun m h1 h2 q => ?_
      rw [same_walk h.len hi hj m (fun e _ => ⟨fun z => ni ⟨e, z⟩, fun z => o ⟨e, z⟩⟩)] at q
      exact (opens_spec h hx).1.non m h1 (by omega) q
  · by_cases o : On p x i
    · have nij : ∀ e, along p i e ≠ j := fun e q => nj (o.trans ⟨e, q⟩)
      have li := oi o
      refine no j hj fun m h1 h2 q => ?_
      obtain ⟨m', rfl⟩ : ∃ m', m = m' + 1 := ⟨m - 1, by omega⟩
      rw [walk_j h.len hi hj m' (fun e a b => ⟨(opens_spec h hi).1.non e a (by omega), nij e⟩)] at q
      exact nij _ q
    · refine no x hx fun m h1 h2 q => ?_
      rw [same_walk h.len hi hj m (fun e _ => ⟨fun z => o ⟨e, z⟩, fun z => nj ⟨e, z⟩⟩)] at q
      exact (opens_spec h hx).1.non m h1 (by omega) q
/-- the two rounds that come of one are not too long -/
theorem halves (h : Ord n p) (hi : i < n) (hj : j < n) (hij : i ≠ j) {k d : Nat} (ok : all k (exchanged p i j) = true) (hd : d < opens p i) (e : along p i d = j) : d ≤ k ∧ opens p i - d ≤ k := by
  have h' := exch_ord h hi hj
  have ok' := (all_iff (p := exchanged p i j) k).mp ok
  have hd0 : 0 < d := Nat.pos_of_ne_zero fun z => hij (by rw [z] at e; exact e)
  have no : ∀ y, y < n → (∀ m, 1 ≤ m → m ≤ k → along (exchanged p i j) y m ≠ y) → False := fun y hy hm => by
    have a := opens_gt h' hy hm
    have b := ok' y (by rw [h'.len]; exact hy)
    omega
  have ne : ∀ a, 1 ≤ a → a < opens p i → along p i a ≠ i := fun a h1 h2 => (opens_spec h hi).1.non a h1 h2
  have nd : ∀ a, a < opens p i → a ≠ d → along p i a ≠ j := fun a h1 h2 q => by
    rw [← e] at q
    rcases Nat.lt_or_gt_of_ne h2 with z | z
    · exact along_ne h hi z hd q
    · exact along_ne h hi z h1 q.symm
  have sh : ∀ a, along p j a = along p i (d + a) := fun a => by rw [along_add, e]
  refine ⟨Nat.not_lt.mp fun hk => no j hj fun m h1 h2 q => ?_, Nat.not_lt.mp fun hk => no i hi fun m h1 h2 q => ?_⟩
  · obtain ⟨m', rfl⟩ : ∃ m', m = m' + 1 := ⟨m - 1, by omega⟩
    rw [walk_j h.len hi hj m' (fun a h3 h4 => ⟨ne a h3 (by omega), nd a (by omega) (by omega)⟩)] at q
    exact nd _ (by omega) (by omega) q
  · obtain ⟨m', rfl⟩ : ∃ m', m = m' + 1 := ⟨m - 1, by omega⟩
    rw [walk_i h.len hi hj hij m' (fun a h3 h4 => by
      rw [sh a]
      exact ⟨ne _ (by omega) (by omega), nd _ (by omega) (by omega)⟩), sh] at q
    exact ne _ (by omega) (by omega) q
/-- and by such an exchange all find theirs -/
theorem mended (h : Ord n p) (hi : i < n) (hj : j < n) (hij : i ≠ j) {k d : Nat} (one : ∀ y, y < n → k < opens p y → On p i y) (hd : d < opens p i) (e : along p i d = j) (h1 : d ≤ k) (h2 : opens p i - d ≤ k) :
    all k (exchanged p i j) = true := by
  have h' := exch_ord h hi hj
  have hd0 : 0 < d := Nat.pos_of_ne_zero fun z => hij (by rw [z] at e; exact e)
  have ne : ∀ a, 1 ≤ a → a < opens p i → along p i a ≠ i := fun a h1 h2 => (opens_spec h hi).1.non a h1 h2
  have nd : ∀ a, a < opens p i → a ≠ d → along p i a ≠ j := fun a h1 h2 q => by
    rw [← e] at q
    rcases Nat.lt_or_gt_of_ne h2 with z | z
    · exact along_ne h hi z hd q
    · exact along_ne h hi z h1 q.symm
  have sh : ∀ a, along p j a = along p i (d + a) := fun a => by rw [along_add, e]
  have wj : ∀ m, 1 ≤ m → m ≤ d → along (exchanged p i j) j m = along p i m := fun m a b => by
    obtain ⟨m', rfl⟩ : ∃ m', m = m' + 1 := ⟨m - 1, by omega⟩
    exact walk_j h.len hi hj m' (fun a h3 h4 => ⟨ne a h3 (by omega), nd a (by omega) (by omega)⟩)
  have wi : ∀ m, 1 ≤ m → m ≤ opens p i - d → along (exchanged p i j) i m = along p i (d + m) := fun m a b => by
    obtain ⟨m', rfl⟩ : ∃ m', m = m' + 1 := ⟨m - 1, by omega⟩
    rw [walk_i h.len hi hj hij m' (fun a h3 h4 => by
      rw [sh a]
      exact ⟨ne _ (by omega) (by omega), nd _ (by omega) (by omega)⟩), sh]
  have pj : along (exchanged p i j) j d = j := by rw [wj d hd0 (Nat.le_refl _), e]
  have pi : along (exchanged p i j) i (opens p i - d) = i := by
    rw [wi _ (by omega) (Nat.le_refl _), show d + (opens p i - d) = opens p i by omega]
    exact (opens_spec h hi).1.at_
  refine (all_iff (p := exchanged p i j) k).mpr fun y hy => ?_
  rw [h'.len] at hy
  by_cases o : On p i y
  · obtain ⟨a, ha, rfl⟩ := o.step h hi
    by_cases c : a ≤ d
    · by_cases c0 : a = 0
      · subst c0
        show opens (exchanged p i j) i ≤ k
        exact Nat.le_trans (opens_le h' hi (by omega) pi) h2
      · rw [← wj a (by omega) c]
        refine Nat.le_trans (opens_le h' (along_lt h' hj _) hd0 ?_) h1
        rw [along_comm, pj]
    · have hw := wi (a - d) (by omega) (by omega)
      rw [show d + (a - d) = a by omega] at hw
      rw [← hw]
      refine Nat.le_trans (opens_le h' (along_lt h' hi _) (by omega) ?_) h2
      rw [along_comm, pi]
  · have hk : opens p y ≤ k := Nat.not_lt.mp fun z => o (one y hy z)
    have ni : ∀ a, along p y a ≠ i := fun a q => o (On.symm h hy ⟨a, q⟩)
    have nj : ∀ a, along p y a ≠ j := fun a q => o ((show On p i j from ⟨d, e⟩).trans (On.symm h hy ⟨a, q⟩))
    refine Nat.le_trans (opens_le h' hy (opens_spec h hy).1.pos ?_) hk
    rw [same_walk h.len hi hj _ (fun a _ => ⟨ni a, nj a⟩)]
    exact (opens_spec h hy).1.at_

/-! the first pair -/
theorem mem_pairs {m : Nat} {x : Nat × Nat} : x ∈ pairs m ↔ x.1 < x.2 ∧ x.2 < m := by
  unfold pairs
  rw [List.mem_flatMap]
  constructor
  · rintro ⟨a, ha, hx⟩
    obtain ⟨b, hb, rfl⟩ := List.mem_map.mp hx
    obtain ⟨h1, h2⟩ := List.mem_filter.mp hb
    exact ⟨of_decide_eq_true h2, List.mem_range.mp h1⟩
  · rintro ⟨h1, h2⟩
    exact ⟨x.1, List.mem_range.mpr (by omega), List.mem_map.mpr ⟨x.2, List.mem_filter.mpr ⟨List.mem_range.mpr h2, decide_eq_true h1⟩, rfl⟩⟩
def lexLt (x y : Nat × Nat) : Prop := x.1 < y.1 ∨ (x.1 = y.1 ∧ x.2 < y.2)
theorem pairs_up (m : Nat) : (pairs m).Pairwise lexLt := by
  unfold pairs
  rw [List.pairwise_flatMap]
  constructor
  · intro a _
    rw [List.pairwise_map]
    have : (List.range m).Pairwise (· < ·) := List.pairwise_lt_range
    exact (this.filter _).imp fun hab => Or.inr ⟨rfl, hab⟩
  · have : (List.range m).Pairwise (· < ·) := List.pairwise_lt_range
    refine this.imp fun hab x hx y hy => ?_
    obtain ⟨_, _, rfl⟩ := List.mem_map.mp hx
    obtain ⟨_, _, rfl⟩ := List.mem_map.mp hy
    exact Or.inl hab
theorem find_first {f : Nat × Nat → Bool} : ∀ {l : List (Nat × Nat)} {x : Nat × Nat}, l.Pairwise lexLt → x ∈ l → f x = true → (∀ y, y ∈ l → lexLt y x → f y = false) → l.find? f = some x
  | [], _, _, hx, _, _ => by cases hx
  | a :: l, x, hp, hx, hf, hy => by
    have hp' := List.pairwise_cons.mp hp
    by_cases ha : f a = true
    · rcases List.mem_cons.mp hx with e | hx
      · rw [List.find?_cons_of_pos ha, e]
      · have := hy a List.mem_cons_self (hp'.1 x hx)
        rw [ha] at this
        cases this
    · rw [List.find?_cons_of_neg ha]
      rcases List.mem_cons.mp hx with e | hx
      · exact absurd (e ▸ hf) ha
      · exact find_first hp'.2 hx hf fun y h1 h2 => hy y (List.mem_cons_of_mem _ h1) h2

/-- the boxes with which the first one of a round may exchange -/
def partners (p : List Nat) (c k : Nat) : List Nat := (List.range (2 * k + 1 - opens p c)).map fun t => along p c (opens p c - k + t)

theorem none_two (h : Ord n p) {k c d : Nat} {r : List Nat} (e : longs p k = c :: d :: r) : (pairs n).find? (fun x => all k (exchanged p x.1 x.2)) = none := by
  rw [List.find?_eq_none]
  rintro ⟨i, j⟩ hx ok
  obtain ⟨hij, hj⟩ := mem_pairs.mp hx
  have hij : i < j := hij
  have hj : j < n := hj
  have hc : c ∈ longs p k := by rw [e]; exact List.mem_cons_self
  have hd : d ∈ longs p k := by rw [e]; exact List.mem_cons_of_mem _ List.mem_cons_self
  obtain ⟨c1, c2⟩ := List.mem_filter.mp hc
  obtain ⟨d1, d2⟩ := List.mem_filter.mp hd
  rw [h.len] at c1 d1
  have a := both h (by omega) hj (by omega) ok (leads_lt c1) (of_decide_eq_true c2)
  have b := both h (by omega) hj (by omega) ok (leads_lt d1) (of_decide_eq_true d2)
  have : c = d := leads_apart h c1 d1 (a.1.trans (b.1.symm h (leads_lt d1)))
  have up : (longs p k).Pairwise (· < ·) := (leads_up _).filter _
  rw [e] at up
  have := (List.pairwise_cons.mp up).1 d List.mem_cons_self
  omega
theorem one_on (h : Ord n p) {k c : Nat} (e : longs p k = [c]) : c < n ∧ k < opens p c ∧ (∀ y, y < n → k < opens p y → On p c y) ∧ ∀ y, On p c y → c ≤ y := by
  have hc : c ∈ longs p k := by rw [e]; exact List.mem_cons_self
  obtain ⟨c1, c2⟩ := List.mem_filter.mp hc
  rw [h.len] at c1
  refine ⟨leads_lt c1, of_decide_eq_true c2, fun y hy hk => ?_, fun y o => leads_least h c1 o⟩
  obtain ⟨d, hd, _, o⟩ := cover h (i := n) (b := y) hy (Nat.le_refl _)
  have hd2 : d ∈ longs p k := List.mem_filter.mpr ⟨by rw [h.len]; exact hd, decide_eq_true (by rw [← o.opens h (leads_lt hd)]; exact hk)⟩
  rw [e] at hd2
  rw [← List.mem_singleton.mp hd2]
  exact o
/-- a pair that does starts in the round, goes to a partner of its first box at the earliest -/
theorem pair_on (h : Ord n p) {k c i j : Nat} (e : longs p k = [c]) (hij : i < j) (hj : j < n) (ok : all k (exchanged p i j) = true) : On p c i ∧ On p c j ∧ (i = c → j ∈ partners p c k) ∧ opens p c ≤ 2 * k := by
  obtain ⟨hc, hk, one, least⟩ := one_on h e
  obtain ⟨a, b⟩ := both h (by omega) hj (by omega) ok hc hk
  have oi := a.opens h hc
  obtain ⟨d, hd, he⟩ := ((a.symm h hc).trans b).step h (show i < n by omega)
  obtain ⟨h1, h2⟩ := halves h (by omega) hj (by omega) ok hd he
  refine ⟨a, b, fun z => ?_, by omega⟩
  subst z
  unfold partners
  exact List.mem_map.mpr ⟨d - (opens p i - k), List.mem_range.mpr (by omega), by rw [show opens p i - k + (d - (opens p i - k)) = d by omega]; exact he⟩
theorem none_one (h : Ord n p) {k c : Nat} (e : longs p k = [c]) (hk : 2 * k < opens p c) : (pairs n).find? (fun x => all k (exchanged p x.1 x.2)) = none := by
  rw [List.find?_eq_none]
  rintro ⟨i, j⟩ hx ok
  obtain ⟨hij, hj⟩ := mem_pairs.mp hx
  have := (pair_on h e hij hj ok).2.2.2
  omega
theorem some_one (h : Ord n p) {k c m : Nat} (e : longs p k = [c]) (hm : m ∈ partners p c k) (hl : ∀ y, y ∈ partners p c k → m ≤ y) : (pairs n).find? (fun x => all k (exchanged p x.1 x.2)) = some (c, m) := by
  obtain ⟨hc, hk, one, least⟩ := one_on h e
  obtain ⟨t, ht, he⟩ := List.mem_map.mp hm
  have ht := List.mem_range.mp ht
  have hcm : c ≠ m := fun z => by
    rw [← z] at he
    exact (opens_spec h hc).1.non _ (by omega) (by omega) he
  have hmn : m < n := by rw [← he]; exact along_lt h hc _
  have hle : c ≤ m := least m ⟨_, he⟩
  refine find_first (pairs_up n) (mem_pairs.mpr ⟨show c < m by omega, hmn⟩) ?_ ?_
  · exact mended h hc hmn hcm one (d := opens p c - k + t) (by omega) he (by omega) (by omega)
  · rintro ⟨i, j⟩ hx hlt
    obtain ⟨hij, hj⟩ := mem_pairs.mp hx
    refine Bool.eq_false_iff.mpr fun ok => ?_
    obtain ⟨a, b, q, _⟩ := pair_on h e hij hj ok
    have hci := least i a
    rcases hlt with z | ⟨z1, z2⟩
    · have z : i < c := z
      omega
    · have z1 : i = c := z1
      have z2 : j < m := z2
      have := hl j (q z1)
      omega
end
end Cyc

set_option Elab.async false
set_option linter.all false
set_option maxRecDepth 100000
set_option maxHeartbeats 2000000
namespace Hb
open PySem PySem.Spec PyProof.Rows L2 Evl
/-! ### the text -/
def topS (i : Nat) : Stmt := PySem.Challenge.pw_hatboxes_s07_swap.main.body.getD i (.Pass ⟨0, 0, 0, 0⟩)
abbrev sOrder : Stmt := topS 2
abbrev sRound : Stmt := topS 3
abbrev sRounds : Stmt := topS 4
abbrev sTooLong : Stmt := topS 5
abbrev sPartners : Stmt := topS 6
abbrev sExchange : Stmt := topS 7
abbrev sSwap : Stmt := topS 12
section
variable {P : Program} {w : World} {K : PySem.W.Frag} {mg : Str → Option Value} {base : Heap}
/-! ### data: lists of ints compared -/
theorem dp_ints {H : Hp} : ∀ ns : List Int, DpAll K H (ns.map V.int) (ns.map PyData.int)
  | [] => .nil
  | n :: r => .cons (.int n) (dp_ints r)
theorem lay_ints : ∀ ns : List Int, PyData.canLayAll0 (ns.map PyData.int) = true ∧ PyData.depthAll (ns.map PyData.int) = 0
  | [] => ⟨by simp [PyData.canLayAll0], by simp [PyData.depthAll]⟩
  | n :: r => by
    have ih := lay_ints r
    exact ⟨by simp [PyData.canLayAll0, PyData.canLay0, ih.1], by simp [PyData.depthAll, PyData.depth, ih.2]⟩
theorem shaped_ints (ns : List Int) : SeqAt.shaped (.list (ns.map PyData.int)) = true := by
  have h := lay_ints ns
  unfold SeqAt.shaped
  simp [PyData.canLay0, PyData.depth, h.1, h.2]
theorem eqv_ints : ∀ a b : List Int, PyData.eqvAll (a.map PyData.int) (b.map PyData.int) = decide (a = b)
  | [], [] => by simp [PyData.eqvAll]
  | [], _ :: _ => by simp [PyData.eqvAll]
  | _ :: _, [] => by simp [PyData.eqvAll]
  | x :: a, y :: b => by
    have ih := eqv_ints a b
    simp only [List.map_cons, PyData.eqvAll, PyData.eqv, ih]
    rw [Bool.eq_iff_iff]
    simp
/-! ### is_order -/
theorem scOrder : FnScope ["p"] ["p"] (defScope sOrder) := ⟨rfl, rfl, rfl, by decide +kernel, rfl, by decide +kernel, by decide +kernel⟩
def spOrder (K : PySem.W.Frag) : Sp := fun vs H Q _ => ∃ (a : Addr) (l : List Nat), vs = [.ref a] ∧ SqL K H a (vL l) ∧ l.length ≤ 5000 ∧ RetV (.bl (Sn88.isOrder l.length l)) H Q
theorem sorted_order {l : List Nat} {ns : List Int} (hp : ns.Perm (l.map fun n : Nat => (n : Int))) (hs : ns.Pairwise (· ≤ ·)) : decide (ns = (List.range l.length).map fun n : Nat => (n : Int)) = Sn88.isOrder l.length l := by
  rw [Bool.eq_iff_iff, decide_eq_true_iff, Cyc.isOrder_iff]
  have cast_inj : ∀ {a b : List Nat}, (a.map fun n : Nat => (n : Int)).Perm (b.map fun n : Nat => (n : Int)) → a.Perm b := fun {a b} h => by
    have := h.map Int.toNat
    rw [List.map_map, List.map_map] at this
    have e : (Int.toNat ∘ fun n : Nat => (n : Int)) = id := funext fun n => Int.toNat_natCast n
    rw [e, List.map_id, List.map_id] at this
    exact this
  constructor
  · intro h
    rw [h] at hp
    exact (cast_inj hp).symm
  · intro h
    have h2 : ns.Perm ((List.range l.length).map fun n : Nat => (n : Int)) := hp.trans (h.map _)
    refine h2.eq_of_pairwise (fun x y _ _ h1 h2 => Int.le_antisymm h1 h2) hs ?_
    rw [List.pairwise_map]
    exact (List.pairwise_lt_range (n := l.length)).imp fun h => by omega
theorem ok_order {f : Addr} {fd : FuncData} {k : Nat} (F : Fun K "is_order" "is_order" sOrder f fd) (mL : mg "len" = none) (mR : mg "range" = none) (mS : mg "sorted" = none) (mT : mg "list" = none) : FnOk P w K mg base CX0 (k + 1) f fd ["p"] (spOrder K) := by
  refine F.ok scOrder (fun vs H Q E h => ?_) (fun cdv A outer s H vs Q E hr h => ?_)
  · obtain ⟨a, l, rfl, _⟩ := h
    rfl
  · obtain ⟨a, l, rfl, hS, hl, kQ⟩ := h
    refine ⟨_, pss_one (ps_ret (pe_cmpR (op_eqD hr.units) (pe_callB cr_sortedI (by rfl) mS (by decide +kernel) (pa_cons (pv 0) pa_nil)) (pe_listRg rfl (by rfl) mT (prg_1 (by rfl) mR (pe_callB call_len_seq (by rfl) mL PySem.boot_len (pa_cons (pv 0) pa_nil)))) (nomark _))), ?_⟩
    refine ⟨.ref a, rfl, a, l.map fun n : Nat => (n : Int), rfl, by rw [← vL_ints]; exact hS, fun ns p hp hs np => ?_⟩
    have e1 : Ex H (upd H p (.lst (ns.map V.int))) := Ex.new np
    have hn : (vL l).length = l.length := vL_len l
    refine ⟨.ref a, rfl, a, vL l, rfl, .inl (ex_l e1 hS), (((vL l).length : Nat) : Int), rfl, RgOk.of_le (by omega) (by omega) (by omega) (by omega), fun q nq => ?_⟩
    have hpq : p ≠ q := fun z => by
      rw [← z, upd_same] at nq
      cases nq
    have hrg : rgV 0 (((vL l).length : Nat) : Int) = ((List.range l.length).map fun n : Nat => (n : Int)).map V.int := by
      unfold rgV
      rw [hn, List.map_map]
      have : (((l.length : Nat) : Int) - 0).toNat = l.length := by omega
      rw [this]
      refine List.map_congr_left fun i _ => ?_
      show V.int (0 + (i : Int)) = V.int (i : Int)
      rw [Int.zero_add]
    refine ⟨.list (ns.map PyData.int), .list (((List.range l.length).map fun n : Nat => (n : Int)).map PyData.int), .lst (sq_of (xs := ns.map V.int) ?_) (dp_ints _), .lst (sq_of (xs := ((List.range l.length).map fun n : Nat => (n : Int)).map V.int) ?_) (dp_ints _), shaped_ints _, shaped_ints _, ?_⟩
    · rw [upd_ne hpq, upd_same]
    · rw [upd_same, hrg]
    · have := kQ _ (e1.trans (Ex.new (o := .lst (rgV 0 (((vL l).length : Nat) : Int))) nq))
      rw [← sorted_order hp hs, ← eqv_ints] at this
      show Q (.bl (PyData.eqv (.list _) (.list _))) _
      rw [PyData.eqv]
      exact this
/-! ### round_from -/
theorem scRound : FnScope ["p", "box", "found"] ["p", "box"] (defScope sRound) := ⟨rfl, rfl, rfl, by decide +kernel, rfl, by decide +kernel, by decide +kernel⟩
def spRound (K : PySem.W.Frag) : Sp := fun vs H Q _ => ∃ (a : Addr) (p : List Nat) (b : Nat), vs = [.ref a, vN b] ∧ SqL K H a (vL p) ∧ Cyc.Ord p.length p ∧ b < p.length ∧ p.length ≤ 1024 ∧ RetL (vL (Cyc.round p b)) H Q
theorem ok_round {f : Addr} {fd : FuncData} {k : Nat} (F : Fun K "round_from" "round_from" sRound f fd) : FnOk P w K mg base CX0 (k + 1) f fd ["p", "box"] (spRound K) := by
  refine F.ok scRound (fun vs H Q E h => ?_) (fun cdv A outer s H vs Q E hr h => ?_)
  · obtain ⟨a, p, b, rfl, _⟩ := h
    rfl
  · obtain ⟨a, p, b, rfl, hS, hO, hb, hl, kQ⟩ := h
    have nd := scRound.nd
    refine ⟨_, pss_cons (ps_set (i := 2) nd rfl (.inl rfl) (pe_lst (pa_cons (pv 1) pa_nil)))
      (pss_cons (ps_while PassesOwn.never (pt_cmpR op_ne (pe_ix ix_list (pv 0) (pe_ix ix_list (pv 2) (pe_un un_neg pe_int) (fun _ _ => rfl)) (fun _ _ => rfl)) (pv 1) (nomark _))
        (pss_one (ps_expr (pe_bm PySem.F.plainAttrs_list PySem.F.slot_list_append PySem.F.type_list_append mt_append (pv 2) (pa_cons (pe_ix ix_list (pv 0) (pe_ix ix_list (pv 2) (pe_un un_neg pe_int) (fun _ _ => rfl)) (fun _ _ => rfl)) pa_nil)))))
      (pss_one (ps_ret (pv 2)))), ?_⟩
    have sp := Cyc.opens_spec hO hb
    refine q_asgL (el_lst (vs := [vN b]) (ea_cons (ev_var rfl) ea_nil) (by show 1 ≤ 100000; decide)) fun t H1 nt e1 ht => ?_
    have snoc : ∀ j, vL ((List.range (j + 1)).map (Sn88.along p b)) = vL ((List.range j).map (Sn88.along p b)) ++ [vN (Sn88.along p b j)] := fun j => by
      rw [vL_snoc, List.range_succ, List.map_append]
      rfl
    have step : ∀ {j : Nat} {H' : Hp}, Ex H H' → H' t = some (.lst (vL ((List.range (j + 1)).map (Sn88.along p b)))) →
        Ev (tOp (rIxL K) (tVar 0) (tOp (rIxL K) (tVar 2) (tUn (rU fun i => .int (-i)) (tC (.int 1))))) [some (.ref a), some (vN b), some (.ref t)] H' (vN (Sn88.along p b (j + 1))) := fun {j H'} e' hT => by
      refine ev_ixN (l := p) (i := Sn88.along p b j) (ev_var rfl) (ev_op (ev_var rfl) (ev_un ev_c ru_neg) (rv_ixL (sq_of hT) ?_)) (ex_l e' hS) (Cyc.along_lt hO hb j)
      rw [snoc]
      exact atI_last _ _
    refine q_while (fun m σ' H' => ∃ j, σ' = [some (.ref a), some (vN b), some (.ref t)] ∧ j < Sn88.opens p b ∧ m = Sn88.opens p b - j ∧ Ex H H' ∧ H' t = some (.lst (vL ((List.range (j + 1)).map (Sn88.along p b))))) (Sn88.opens p b)
      ⟨0, rfl, sp.1.pos, rfl, e1, ht⟩ fun m σ' H' hp => ?_
    obtain ⟨j, rfl, hj, rfl, eH, hT⟩ := hp
    refine ⟨_, et_neN (step eH hT) (ev_var rfl), fun hc H2 e2 => ?_, fun hc H2 e2 => ?_⟩
    · have hne : Sn88.along p b (j + 1) ≠ b := beq_eq_false_iff_ne.mp (b_not hc)
      have hj2 : j + 1 < Sn88.opens p b := by
        refine Nat.lt_of_le_of_ne hj fun z => hne ?_
        have := sp.1.at_
        rw [← z] at this
        exact this
      refine ⟨fun σ2 H3 => ∃ j', σ2 = [some (.ref a), some (vN b), some (.ref t)] ∧ j' = j + 1 ∧ Ex H H3 ∧ H3 t = some (.lst (vL ((List.range (j' + 1)).map (Sn88.along p b)))), fun σ2 H3 hN => ?_, ?_⟩
      · obtain ⟨j', rfl, rfl, eH3, hT3⟩ := hN
        exact ⟨_, by omega, j + 1, rfl, hj2, rfl, eH3, hT3⟩
      · refine s_app (e2 t _ hT) (ev_var rfl) (step (eH.trans e2) (e2 t _ hT)) (by rw [vL_len, List.length_map, List.length_range]; have := sp.2; omega) fun H3 e3 => ⟨j + 1, rfl, rfl, Ex.mut ((eH.trans e2).trans e3) nt, ?_⟩
        rw [upd_same, ← snoc (j + 1)]
    · have he : Sn88.along p b (j + 1) = b := beq_iff_eq.mp (b_yes hc)
      have hj2 : j + 1 = Sn88.opens p b := Nat.le_antisymm hj (Cyc.opens_le hO hb (by omega) he)
      rw [hj2] at hT
      exact s_ret (ev_var rfl) fun H3 e3 => kQ t H3 nt ((eH.trans e2).trans e3) (e3 t _ (e2 t _ hT))
/-! ### rounds_of -/
def puts (kvs : List (Key × V)) (l : List Nat) : List (Key × V) := l.foldl (fun c (x : Nat) => putK c (.inl (x : Int)) (.bl true)) kvs
theorem puts_has : ∀ (l : List Nat) (kvs : List (Key × V)) (b : Nat), (valV (puts kvs l) (.inl (b : Int))).isSome = ((valV kvs (.inl (b : Int))).isSome || l.contains b)
  | [], kvs, b => by
    show (valV kvs (.inl (b : Int))).isSome = _
    simp
  | x :: l, kvs, b => by
    show (valV (puts (putK kvs (.inl (x : Int)) (.bl true)) l) (.inl (b : Int))).isSome = _
    rw [puts_has l, valV_put, List.contains_cons]
    by_cases e : b = x
    · subst e
      rw [if_pos rfl]
      simp
    · rw [if_neg (fun z => e (by have := Sum.inl.inj z; omega)), show (b == x) = false from beq_eq_false_iff_ne.mpr e, Bool.false_or]
theorem puts_len : ∀ (l : List Nat) (kvs : List (Key × V)), (puts kvs l).length ≤ kvs.length + l.length
  | [], kvs => Nat.le_refl _
  | x :: l, kvs => by
    have h1 := puts_len l (putK kvs (.inl (x : Int)) (.bl true))
    have h2 := length_putK kvs (.inl (x : Int)) (V.bl true)
    show (puts (putK kvs (.inl (x : Int)) (.bl true)) l).length ≤ _
    rw [List.length_cons]
    omega
/-- the list at t: the rounds from these boxes, each a list of its own -/
def RG (p : List Nat) (t : Addr) (cs : List Nat) (H : Hp) : Prop := ∃ as : List Addr, H t = some (.lst (as.map V.ref)) ∧ as.length = cs.length ∧
  ∀ (j : Nat) (a : Addr), as[j]? = some a → a ≠ t ∧ H a = some (.lst (vL (Cyc.round p (cs.getD j 0))))
theorem RG.keep {p : List Nat} {t : Addr} {cs : List Nat} {H H' : Hp} (h : RG p t cs H) (k : ∀ b xs, H b = some (.lst xs) → H' b = some (.lst xs)) : RG p t cs H' := by
  obtain ⟨as, h1, h2, h3⟩ := h
  exact ⟨as, k _ _ h1, h2, fun j a hj => ⟨(h3 j a hj).1, k _ _ (h3 j a hj).2⟩⟩
theorem scRounds : FnScope ["p", "found", "known", "box", "some", "one"] ["p"] (defScope sRounds) := ⟨rfl, rfl, rfl, by decide +kernel, rfl, by decide +kernel, by decide +kernel⟩
def spRounds (K : PySem.W.Frag) : Sp := fun vs H Q _ => ∃ (a : Addr) (p : List Nat), vs = [.ref a] ∧ SqL K H a (vL p) ∧ Cyc.Ord p.length p ∧ p.length ≤ 1024 ∧ ∀ v H', Ex H H' → IsNN K ((Cyc.leads p p.length).map (Cyc.round p)) v H' → Q v H'
theorem et_dnotin {σ : L2.St} {H : Hp} {i j : Nat} {d : Addr} {b : Nat} {kvs : List (Key × V)} (h1 : σ[i]? = some (some (vN b))) (h2 : σ[j]? = some (some (.ref d))) (hd : H d = some (.dK kvs)) : EvT (tB (tDNotIn (tVar i) (tVar j))) σ H (!(valV kvs (.inl (b : Int))).isSome) := fun H1 e Q q =>
  ⟨_, h1, _, h2, d, _, rfl, DGet.k (k := .inl (b : Int)) (e d _ hd), _, rfl, q H1 (Ex.refl H1)⟩
theorem ok_rounds {f f1 : Addr} {fd fd1 : FuncData} {k : Nat} (F : Fun K "rounds_of" "rounds_of" sRounds f fd) (G1 : FnOk P w K mg base CX0 (k + 1) f1 fd1 ["p", "box"] (spRound K)) (F1 : Fun K "round_from" "round_from" sRound f1 fd1) (b1 : Binds K fd1 ["p", "box"] []) (g1 : mg "round_from" = some (.ref f1)) (mL : mg "len" = none) (mR : mg "range" = none) :
    FnOk P w K mg base CX0 (k + 2) f fd ["p"] (spRounds K) := by
  refine F.ok scRounds (fun vs H Q E h => ?_) (fun cdv A outer s H vs Q E hr h => ?_)
  · obtain ⟨a, p, rfl, _⟩ := h
    rfl
  · obtain ⟨a, p, rfl, hS, hO, hl, kQ⟩ := h
    have nd := scRounds.nd
    have hu := hu_of hr
    refine ⟨_, pss_cons (ps_set (i := 1) nd rfl (.inl rfl) (pe_lst pa_nil))
      (pss_cons (ps_set (i := 2) nd rfl (.inl rfl) pe_dnewK)
      (pss_cons (ps_for PassesOwn.never rfl (pi_range1 (by rfl) mR (pa_cons (pe_callB call_len_seq (by rfl) mL PySem.boot_len (pa_cons (pv 0) pa_nil)) pa_nil)) (pg_name (i := 3) nd rfl (.inl rfl))
        (pss_one (ps_if (pt_cmp (pc_dnotin hu (pv 3) (pv 2)))
          (pss_cons (ps_set (i := 4) nd rfl (.inl rfl) (pe_call G1 hr (by rfl) g1 F1.kp b1 .nil pass0 (pa_cons (pv 0) (pa_cons (pv 3) pa_nil))))
          (pss_cons (ps_for PassesOwn.never rfl (pi_list (pv 4)) (pg_name (i := 5) nd rfl (.inl rfl)) (pss_one (ps_dput hu (pv 2) (pv 5) pe_bl rfl)))
          (pss_one (ps_expr (pe_bm PySem.F.plainAttrs_list PySem.F.slot_list_append PySem.F.type_list_append mt_append (pv 1) (pa_cons (pv 4) pa_nil)))))) pss_nil)))
      (pss_one (ps_ret (pv 1))))), ?_⟩
    refine q_asgL (el_lst ea_nil (Nat.zero_le _)) fun t H1 nt e1 ht => ?_
    intro d nd1
    have htd : t ≠ d := ne_of_none ht nd1
    have nd0 : H d = none := fresh_back e1 nd1
    have e2 : Ex H1 (upd H1 d (.dK [])) := Ex.new nd1
    refine q_forR1 (n := (p.length : Int)) (ea_cons (ev_lenN' (ev_var rfl) (ex_l (e1.trans e2) hS)) ea_nil) ⟨by omega, by omega⟩
      (fun i σ' H' => ∃ (y3 y4 y5 : Option V) (kvs : List (Key × V)), σ' = [some (.ref a), some (.ref t), some (.ref d), y3, y4, y5] ∧ Ex H H' ∧ RG p t (Cyc.leads p i) H' ∧ H' d = some (.dK kvs) ∧ kvs.length ≤ i * 1024 ∧ ∀ b : Nat, (valV kvs (.inl (b : Int))).isSome = Cyc.known p i b)
      (fun H3 e3 => ⟨none, none, none, [], rfl, (e1.trans e2).trans e3, ⟨[], e3 t _ (e2 t _ ht), rfl, fun _ _ z => by simp at z⟩, e3 d _ upd_same, Nat.zero_le _, fun b => rfl⟩) (fun i σ' H' hi hp => ?_) (fun σ' H' hp => ?_)
    · obtain ⟨y3, y4, y5, kvs, rfl, eH, hRG, hD, hk, hkn⟩ := hp
      have hi' : i < p.length := by omega
      refine s_if (et_dnotin rfl rfl hD) (fun hc H3 e3 => ?_) (fun hc H3 e3 => ?_)
      · have hnew : ¬ (Cyc.leads p i).any (fun c => (Cyc.round p c).contains i) = true := by
          have := b_not hc
          rw [hkn i] at this
          unfold Cyc.known at this
          rw [this]
          decide
        have hlead : Cyc.leads p (i + 1) = Cyc.leads p i ++ [i] := by
          rw [Cyc.leads, if_neg hnew]
        refine q_asgL (el_call (xs := vL (Cyc.round p i)) (ea_cons (ev_var rfl) (ea_cons (ev_var rfl) ea_nil)) fun H4 e4 Q4 q4 E4 => ⟨a, p, i, rfl, ex_l ((eH.trans e3).trans e4) hS, hO, hi', hl, q4⟩) fun r H4 nr e4 hr4 => ?_
        have hrd : r ≠ d := (ne_of_none (e3 d _ hD) nr).symm
        have hrt : r ≠ t := by
          obtain ⟨as, h1, _⟩ := hRG
          exact (ne_of_none (e3 t _ h1) nr).symm
        have e34 := e3.trans e4
        have hz : (Cyc.round p i).length ≤ 1024 := by
          rw [Cyc.round_len]
          exact Nat.le_trans (Cyc.opens_spec hO hi').2 hl
        have hk2 : kvs.length ≤ 1024 * 1024 := Nat.le_trans hk (Nat.mul_le_mul_right _ (by omega))
        refine q_forLn (xs := vL (Cyc.round p i)) (ev_var rfl) (sq_of hr4)
          (fun j σ2 H5 => ∃ y : Option V, σ2 = [some (.ref a), some (.ref t), some (.ref d), some (vN i), some (.ref r), y] ∧ H5 d = some (.dK (puts kvs ((Cyc.round p i).take j))) ∧ ∀ b o, b ≠ d → H4 b = some o → H5 b = some o)
          (fun H5 e5 => ⟨y5, rfl, e5 d _ (e34 d _ hD), fun b o _ q => e5 b o q⟩) (fun j σ2 H5 _ hp => ?_) (fun j x σ2 H5 hx hp => ?_) (fun σ2 H5 hp => ?_)
        · obtain ⟨y, rfl, h5, h6⟩ := hp
          exact sq_of (h6 r _ hrd hr4)
        · obtain ⟨y, rfl, h5, h6⟩ := hp
          obtain ⟨hj, rfl⟩ := vL_inv hx
          have hpl := puts_len ((Cyc.round p i).take j) kvs
          have htl : ((Cyc.round p i).take j).length ≤ 1024 := by
            rw [List.length_take]
            omega
          have htk : (Cyc.round p i).take (j + 1) = (Cyc.round p i).take j ++ [(Cyc.round p i).getD j 0] := by
            rw [List.take_succ_eq_append_getElem hj, List.getD_eq_getElem?_getD, List.getElem?_eq_getElem hj]
            rfl
          refine ⟨_, rfl, _, rfl, d, _, rfl, DPut.k (k := .inl (((Cyc.round p i).getD j 0 : Nat) : Int)) h5 (sz_lt' (by omega)), ?_⟩
          refine ⟨_, rfl, ?_, fun b o hb q => ?_⟩
          · rw [upd_same, htk]
            show some (HO.dK (putK (puts kvs ((Cyc.round p i).take j)) _ _)) = some (HO.dK (List.foldl _ kvs (_ ++ [_])))
            rw [List.foldl_append]
            rfl
          · rw [upd_ne hb]
            exact h6 b o hb q
        · obtain ⟨y, rfl, h5, h6⟩ := hp
          rw [vL_len, List.take_length] at h5
          obtain ⟨as, g1, g2, g3⟩ := hRG
          have hT5 : H5 t = some (.lst (as.map V.ref)) := h6 t _ htd (e34 t _ g1)
          refine s_app hT5 (ev_var rfl) (ev_var rfl) (by
            rw [List.length_map, g2]
            have h1 : (Cyc.leads p i).length ≤ (List.range i).length := Cyc.len_le_of_nodup ((Cyc.leads_up i).imp (fun h => Nat.ne_of_lt h)) (fun x hx => List.mem_range.mpr (Cyc.leads_lt hx))
            rw [List.length_range] at h1
            omega) fun H6 e6 => ?_
          refine ⟨_, _, _, puts kvs (Cyc.round p i), rfl, ?_, ⟨as ++ [r], ?_, ?_, fun j b hj => ?_⟩, ?_, ?_, fun b => ?_⟩
          · intro b o hb
            rw [upd_ne (ne_of_none hb nt)]
            exact e6 b o (h6 b o (ne_of_none hb nd0) (e34 b o (eH b o hb)))
          · rw [upd_same, List.map_append]
            rfl
          · rw [hlead, List.length_append, List.length_append, g2]
            rfl
          · rw [hlead]
            by_cases hjl : j < as.length
            · rw [List.getElem?_append_left hjl] at hj
              obtain ⟨q1, q2⟩ := g3 j b hj
              have hbd : b ≠ d := ne_of q2 hD (by intro z; cases z)
              refine ⟨q1, ?_⟩
              rw [upd_ne q1, List.getD_eq_getElem?_getD, List.getElem?_append_left (by omega), ← List.getD_eq_getElem?_getD]
              exact e6 b _ (h6 b _ hbd (e34 b _ q2))
            · rw [List.getElem?_append_right (by omega)] at hj
              have hj0 : j - as.length = 0 := by
                have := (List.getElem?_eq_some_iff.mp hj).1
                rw [List.length_singleton] at this
                omega
              rw [hj0] at hj
              have hb : r = b := Option.some.inj hj
              subst hb
              refine ⟨hrt, ?_⟩
              rw [upd_ne hrt, show (Cyc.leads p i ++ [i]).getD j 0 = i by
                rw [List.getD_eq_getElem?_getD, List.getElem?_append_right (by omega), show j - (Cyc.leads p i).length = 0 by omega]
                rfl]
              exact e6 r _ (h6 r _ hrd hr4)
          · rw [upd_ne htd.symm]
            exact e6 d _ h5
          · have := puts_len (Cyc.round p i) kvs
            omega
          · rw [puts_has, hkn b]
            unfold Cyc.known
            rw [hlead, List.any_append]
            simp
      · have hold : (Cyc.leads p i).any (fun c => (Cyc.round p c).contains i) = true := by
          have := b_yes hc
          rw [hkn i] at this
          exact this
        have hlead : Cyc.leads p (i + 1) = Cyc.leads p i := by
          rw [Cyc.leads, if_pos hold]
        refine ⟨_, y4, y5, kvs, rfl, eH.trans e3, ?_, e3 d _ hD, by omega, fun b => ?_⟩
        · rw [hlead]
          exact hRG.keep fun b xs q => e3 b _ q
        · rw [hkn b]
          unfold Cyc.known
          rw [hlead]
    · obtain ⟨y3, y4, y5, kvs, rfl, eH, hRG, hD, hk, hkn⟩ := hp
      rw [Int.toNat_natCast] at hRG
      refine s_ret (ev_var rfl) fun H3 e3 => kQ _ H3 (eH.trans e3) ?_
      obtain ⟨as, g1, g2, g3⟩ := hRG
      refine ⟨t, as.map V.ref, rfl, sq_of (e3 t _ g1), by rw [List.length_map, List.length_map, g2], fun j hj => ?_⟩
      rw [List.length_map] at hj
      have hja : j < as.length := by omega
      have ha : as[j]? = some as[j] := List.getElem?_eq_getElem hja
      refine ⟨.ref as[j], by rw [List.getElem?_map, ha]; rfl, as[j], rfl, sq_of ?_⟩
      have := (g3 j _ ha).2
      rw [show ((Cyc.leads p p.length).map (Cyc.round p)).getD j [] = Cyc.round p ((Cyc.leads p p.length).getD j 0) by
        rw [List.getD_eq_getElem?_getD, List.getElem?_map, List.getElem?_eq_getElem hj, List.getD_eq_getElem?_getD, List.getElem?_eq_getElem hj]
        rfl]
      exact e3 _ _ this
/-! ### too_long -/
theorem filter_places (g : List Nat → Bool) : ∀ (ll : List (List Nat)), ll.filter g = ((List.range ll.length).filter fun i => g (ll.getD i [])).map fun i => ll.getD i [] := fun ll => by
  have e : ll = (List.range ll.length).map fun i => ll.getD i [] := by
    apply List.ext_getElem?
    intro i
    rw [List.getElem?_map]
    by_cases hi : i < ll.length
    · rw [List.getElem?_range hi, List.getElem?_eq_getElem hi]
      show some ll[i] = some (ll.getD i [])
      rw [List.getD_eq_getElem?_getD, List.getElem?_eq_getElem hi]
      rfl
    · rw [List.getElem?_eq_none (by omega), List.getElem?_eq_none (by rw [List.length_range]; omega)]
      rfl
  conv => lhs; rw [e]
  rw [List.filter_map]
  rfl
/-- [x for x in rows if ..] -/
theorem ep_lcF {σ : L2.St} {H : Hp} {tl : TE} {t : TT} {j : Nat} {vs : List Nat} {ll : List (List Nat)} (g : List Nat → Bool) (h : EvP tl σ H (IsNN K ll)) (hz : ll.length ≤ 40000) (hw : ∀ x, wipe ((wipe σ vs).set j (some x)) vs = wipe σ vs) (hv : ∀ x, ((wipe σ vs).set j (some x))[j]? = some (some x))
    (ht : ∀ (l : List Nat) (x : V) H1, Ex H H1 → IsN K l x H1 → EvT t ((wipe σ vs).set j (some x)) H1 (g l)) : EvP (tLc (iList K tl) (gName j) t (tVar j) vs) σ H (IsNN K (ll.filter g)) := fun H0 e Q q => h H0 e _ fun v H1 e1 ⟨a, xs, hv0, hx, hlen, hit⟩ => by
  subst hv0
  have at_ : ∀ i x, xs[i]? = some x → i < ll.length ∧ IsN K (ll.getD i []) x H1 := fun i x hi => by
    have hi' : i < ll.length := by
      have := (List.getElem?_eq_some_iff.mp hi).1
      omega
    obtain ⟨y, h1, h2⟩ := hit i hi'
    rw [hi] at h1
    cases h1
    exact ⟨hi', h2⟩
  refine ⟨a, rfl, ⟨xs, hx⟩, fun Dl hD => ?_⟩
  refine lc_list (xs := xs) (Cw H1 (fun i => g (ll.getD i [])) (fun i => xs.getD i .non) Dl) ⟨hD, Ex.new hD, upd_same⟩ (fun i H' _ p => ex_l p.2.1 hx) (fun i x H' hi p => ⟨hw x, ?_⟩) (fun H' p => ?_)
  · obtain ⟨h1, h2⟩ := at_ i x hi
    have hxg : xs.getD i .non = x := by
      rw [List.getD_eq_getElem?_getD, hi]
      rfl
    refine cw_turn p (by omega) (ht _ x H1 (e.trans e1) h2) fun _ => ?_
    show Ev (tVar j) _ H1 (xs.getD i .non)
    rw [hxg]
    exact ev_var (hv x)
  · refine q _ H' (e1.trans p.2.1) ⟨Dl, _, rfl, sq_of p.2.2, ?_, fun m hm => ?_⟩
    · unfold given
      rw [filter_places, List.length_map, List.length_map, hlen]
    · rw [filter_places, List.length_map] at hm
      have hgi : ((List.range ll.length).filter fun i => g (ll.getD i []))[m]? = some (((List.range ll.length).filter fun i => g (ll.getD i []))[m]) := List.getElem?_eq_getElem hm
      generalize ((List.range ll.length).filter fun i => g (ll.getD i []))[m] = i at hgi
      have hi : i < ll.length := by
        have := List.mem_of_getElem? hgi
        exact List.mem_range.mp (List.mem_filter.mp this).1
      obtain ⟨x, h1, h2⟩ := hit i hi
      refine ⟨x, ?_, ?_⟩
      · unfold given
        rw [List.getElem?_map, hlen, hgi]
        show some (xs.getD i .non) = some x
        rw [List.getD_eq_getElem?_getD, h1]
        rfl
      · have e2 : (ll.filter g).getD m [] = ll.getD i [] := by
          rw [filter_places, List.getD_eq_getElem?_getD, List.getElem?_map, hgi]
          rfl
        rw [e2]
        exact h2.mono p.2.1
theorem scTooLong : FnScope ["p", "k", "some"] ["p", "k"] (defScope sTooLong) := ⟨rfl, rfl, rfl, by decide +kernel, rfl, by decide +kernel, by decide +kernel⟩
def spTooLong (K : PySem.W.Frag) : Sp := fun vs H Q _ => ∃ (a : Addr) (p : List Nat) (k : Nat), vs = [.ref a, vN k] ∧ SqL K H a (vL p) ∧ Cyc.Ord p.length p ∧ p.length ≤ 1024 ∧ ∀ v H', Ex H H' → IsNN K ((Cyc.longs p k).map (Cyc.round p)) v H' → Q v H'
theorem ok_toolong {f f1 : Addr} {fd fd1 : FuncData} {k : Nat} (F : Fun K "too_long" "too_long" sTooLong f fd) (G1 : FnOk P w K mg base CX0 (k + 2) f1 fd1 ["p"] (spRounds K)) (F1 : Fun K "rounds_of" "rounds_of" sRounds f1 fd1) (b1 : Binds K fd1 ["p"] []) (g1 : mg "rounds_of" = some (.ref f1)) (mL : mg "len" = none) :
    FnOk P w K mg base CX0 (k + 3) f fd ["p", "k"] (spTooLong K) := by
  refine F.ok scTooLong (fun vs H Q E h => ?_) (fun cdv A outer s H vs Q E hr h => ?_)
  · obtain ⟨a, p, k, rfl, _⟩ := h
    rfl
  · obtain ⟨a, p, m, rfl, hS, hO, hl, kQ⟩ := h
    have nd := scTooLong.nd
    refine ⟨_, pss_one (ps_ret (pe_lc (own := [("some", 2)]) (g := gName 2) (tt := tTest (tOp (rI0 fun i j => .bl (decide (j < i))) (tCB (rLenS K) (tCons (tVar 2) tNil)) (tVar 1))) (te := tVar 2) rfl nd (pi_list (pe_call G1 hr (by rfl) g1 F1.kp b1 .nil pass0 (pa_cons (pv 0) pa_nil))) (blkOk_by (own := [("some", 2)]) (N := ["p", "k", "some"]) (sc := defScope sTooLong) (by decide +kernel))
      (fun _ _ _ _ _ => pg_name (i := 2) nd rfl (Or.inl rfl)) (fun _ _ _ _ _ => pts_one (pt_cmpR op_gt (pe_callB call_len_seq (by rfl) mL PySem.boot_len (pa_cons (pv 2) pa_nil)) (pv 1) (nomark _))) (fun _ _ _ _ _ => pv 2))), ?_⟩
    have hlen : (Cyc.leads p p.length).length ≤ p.length := by
      have h1 : (Cyc.leads p p.length).length ≤ (List.range p.length).length := Cyc.len_le_of_nodup ((Cyc.leads_up _).imp (fun h => Nat.ne_of_lt h)) (fun x hx => List.mem_range.mpr (Cyc.leads_lt hx))
      rw [List.length_range] at h1
      exact h1
    have hE := ep_lcF (K := K) (σ := [some (.ref a), some (vN m), none]) (H := H) (tl := tCall (spRounds K) [] E0 (tCons (tVar 0) tNil)) (t := tTest (tOp (rI0 fun i j => .bl (decide (j < i))) (tCB (rLenS K) (tCons (tVar 2) tNil)) (tVar 1))) (j := 2) (vs := [2]) (ll := (Cyc.leads p p.length).map (Cyc.round p)) (fun l => decide (m < l.length))
      (ep_callV (vs := [.ref a]) (ea_cons (ev_var rfl) ea_nil) fun H1 e1 Q1 q1 E1 => ⟨a, p, rfl, ex_l e1 hS, hO, hl, fun v H2 e2 hv => q1 v H2 e2 hv⟩) (by rw [List.length_map]; omega) (fun _ => rfl) (fun _ => rfl)
      (fun l x H1 e1 hx => by
        obtain ⟨b, rfl, hb⟩ := hx
        refine et_is (et_test (ev_op (ev_lenN' (ev_var rfl) hb) (ev_var rfl) rv_I0)) ?_
        rw [Bool.eq_iff_iff, decide_eq_true_iff, decide_eq_true_iff]
        omega)
    have hf : (((Cyc.leads p p.length).map (Cyc.round p)).filter fun l => decide (m < l.length)) = (Cyc.longs p m).map (Cyc.round p) := by
      rw [List.filter_map]
      unfold Cyc.longs
      congr 1
      refine List.filter_congr fun c _ => ?_
      show decide (m < (Cyc.round p c).length) = _
      rw [Cyc.round_len]
    rw [hf] at hE
    exact s_retP hE fun v H1 e1 hv => kQ v H1 e1 hv
theorem IsNN.len {ll : List (List Nat)} {v : V} {H : Hp} : IsNN K ll v H → ∃ a vs, v = .ref a ∧ SqL K H a vs ∧ vs.length = ll.length
  | ⟨a, vs, h1, h2, h3, _⟩ => ⟨a, vs, h1, h2, h3⟩
/-- len(rows) -/
theorem ev_lenNN {σ : L2.St} {H : Hp} {te : TE} {ll : List (List Nat)} (h : EvP te σ H (IsNN K ll)) : Ev (tCB (rLenS K) (tCons te tNil)) σ H (vN ll.length) := fun H1 e Q q =>
  h H1 e _ fun v H2 e2 hv => by
    obtain ⟨a, vs, rfl, hs, hl⟩ := hv.len
    refine ⟨a, vs, rfl, .inl hs, ?_⟩
    rw [hl]
    exact q H2 e2
/-! ### partners -/
/-- [.. for d in range(lo, hi) if ..] -/
theorem el_lcR2 {σ : L2.St} {H : Hp} {te : TE} {ta : TA} {t : TT} {j : Nat} {vs : List Nat} {lo hi : Int} (f : Nat → Bool) (v : Nat → V) (h : EvA ta σ H [.int lo, .int hi]) (hb : 0 ≤ lo ∧ lo ≤ 100000 ∧ -100000 ≤ hi ∧ hi ≤ 40000) (hw : ∀ x, wipe ((wipe σ vs).set j (some x)) vs = wipe σ vs)
    (ht : ∀ (i : Nat) H1, Ex H H1 → i < (hi - lo).toNat → EvT t ((wipe σ vs).set j (some (.int (lo + (i : Int))))) H1 (f i)) (he : ∀ (i : Nat) H1, Ex H H1 → i < (hi - lo).toNat → f i = true → Ev te ((wipe σ vs).set j (some (.int (lo + (i : Int))))) H1 (v i)) :
    EvL (tLc (iRng2 ta) (gName j) t te vs) σ H (given (hi - lo).toNat f v) := fun H0 e Q q => h H0 e _ fun H1 e1 => ⟨lo, hi, rfl, ⟨by omega, by omega, by omega, by omega⟩, fun Dl hD =>
  lc_range (lo := lo) (n := (hi - lo).toNat) (Cw H1 f v Dl) ⟨hD, Ex.new hD, upd_same⟩ (fun i H' hi p => ⟨hw _, cw_turn p (by omega) (ht i H1 (e.trans e1) hi) (fun hf => he i H1 (e.trans e1) hi hf)⟩) (fun H' p => q Dl H' (fresh_back e1 p.1) (e1.trans p.2.1) p.2.2)⟩
theorem scPartners : FnScope ["some", "k", "d"] ["some", "k"] (defScope sPartners) := ⟨rfl, rfl, rfl, by decide +kernel, rfl, by decide +kernel, by decide +kernel⟩
def partnersOf (s : List Nat) (k : Nat) : List Nat := (List.range (2 * k + 1 - s.length)).map fun t => s.getD (s.length - k + t) 0
theorem partnersOf_round {p : List Nat} (c k : Nat) (hk : k < Sn88.opens p c) : partnersOf (Cyc.round p c) k = Cyc.partners p c k := by
  unfold partnersOf Cyc.partners
  rw [Cyc.round_len]
  refine List.map_congr_left fun t ht => ?_
  have ht := List.mem_range.mp ht
  unfold Cyc.round
  rw [getD_mapR _ _ (by omega)]
def spPartners (K : PySem.W.Frag) : Sp := fun vs H Q _ => ∃ (a : Addr) (s : List Nat) (k : Nat), vs = [.ref a, vN k] ∧ SqL K H a (vL s) ∧ k < s.length ∧ s.length ≤ 1024 ∧ RetL (vL (partnersOf s k)) H Q
theorem ok_partners {f : Addr} {fd : FuncData} {k : Nat} (F : Fun K "partners" "partners" sPartners f fd) (mL : mg "len" = none) (mR : mg "range" = none) : FnOk P w K mg base CX0 (k + 1) f fd ["some", "k"] (spPartners K) := by
  refine F.ok scPartners (fun vs H Q E h => ?_) (fun cdv A outer s H vs Q E hr h => ?_)
  · obtain ⟨a, s, m, rfl, _⟩ := h
    rfl
  · obtain ⟨a, s, m, rfl, hS, hm, hl, kQ⟩ := h
    have nd := scPartners.nd
    refine ⟨_, pss_one (ps_ret (pe_lc (own := [("d", 2)]) (g := gName 2) (tt := tYes) (te := tOp (rIxL K) (tVar 0) (tVar 2)) rfl nd (pi_range2 (by rfl) mR (pa_cons (pe_op op_sub (pe_callB call_len_seq (by rfl) mL PySem.boot_len (pa_cons (pv 0) pa_nil)) (pv 1)) (pa_cons (pe_op op_add (pv 1) pe_int) pa_nil))) (blkOk_by (own := [("d", 2)]) (N := ["some", "k", "d"]) (sc := defScope sPartners) (by decide +kernel))
      (fun _ _ _ _ _ => pg_name (i := 2) nd rfl (Or.inl rfl)) (fun _ _ _ _ _ => pts_nil) (fun _ _ _ _ _ => pe_ix ix_list (pv 0) (pv 2) (fun _ _ => rfl)))), ?_⟩
    have hn : (((m + 1 : Nat) : Int) - ((s.length - m : Nat) : Int)).toNat = 2 * m + 1 - s.length := by omega
    have hE := el_lcR2 (σ := [some (.ref a), some (vN m), none]) (H := H) (te := tOp (rIxL K) (tVar 0) (tVar 2)) (ta := tCons (tOp (rI0 fun i j => .int (i - j)) (tCB (rLenS K) (tCons (tVar 0) tNil)) (tVar 1)) (tCons (tOp (rI0 fun i j => .int (i + j)) (tVar 1) (tC (.int 1))) tNil)) (t := tYes) (j := 2) (vs := [2])
      (lo := ((s.length - m : Nat) : Int)) (hi := ((m + 1 : Nat) : Int)) (fun _ => true) (fun i => vN (s.getD (s.length - m + i) 0)) (ea_cons (ev_subN (ev_lenN' (ev_var rfl) hS) (ev_var rfl) (by omega)) (ea_cons (ev_addN (ev_var rfl) (ev_lit 1)) ea_nil)) ⟨by omega, by omega, by omega, by omega⟩ (fun _ => rfl)
      (fun _ _ _ _ => fun H1 _ _ q => q H1 (Ex.refl H1)) (fun i H1 e1 hi _ => by
        rw [hn] at hi
        have hx : (((s.length - m : Nat) : Int) + (i : Int)) = ((s.length - m + i : Nat) : Int) := by omega
        rw [hx]
        exact ev_ixN (ev_var rfl) (ev_var rfl) (ex_l e1 hS) (by omega))
    rw [hn, given_all] at hE
    have hfin : (List.range (2 * m + 1 - s.length)).map (fun i => vN (s.getD (s.length - m + i) 0)) = vL (partnersOf s m) := by
      unfold partnersOf
      show _ = List.map vN (List.map _ _)
      rw [List.map_map]
      rfl
    rw [hfin] at hE
    exact s_retL hE fun p H2 hp e2 h2 => kQ p H2 hp e2 h2
/-! ### exchange -/
theorem scExchange : FnScope ["p", "k", "rounds", "some"] ["p", "k"] (defScope sExchange) := ⟨rfl, rfl, rfl, by decide +kernel, rfl, by decide +kernel, by decide +kernel⟩
/-- the first pair by whose exchange all find theirs -/
def firstPair (p : List Nat) (k : Nat) : Option (Nat × Nat) := (Sn88.pairs p.length).find? fun x => Sn88.all k (Sn88.exchanged p x.1 x.2)
def IsPair (K : PySem.W.Frag) (o : Option (Nat × Nat)) : VP := fun v H => (v = .non ∧ o = none) ∨ ∃ (t : Addr) (c m : Nat), v = .ref t ∧ SqT K H t [vN c, vN m] ∧ o = some (c, m)
def spExchange (K : PySem.W.Frag) : Sp := fun vs H Q _ => ∃ (a : Addr) (p : List Nat) (k : Nat), vs = [.ref a, vN k] ∧ SqL K H a (vL p) ∧ Cyc.Ord p.length p ∧ p.length ≤ 1024 ∧ Cyc.longs p k ≠ [] ∧ ∀ v H', Ex H H' → IsPair K (firstPair p k) v H' → Q v H'
theorem ok_exchange {f f1 f2 : Addr} {fd fd1 fd2 : FuncData} {k : Nat} (F : Fun K "exchange" "exchange" sExchange f fd) (G1 : FnOk P w K mg base CX0 (k + 1) f1 fd1 ["p", "k"] (spTooLong K)) (F1 : Fun K "too_long" "too_long" sTooLong f1 fd1) (b1 : Binds K fd1 ["p", "k"] []) (g1 : mg "too_long" = some (.ref f1))
    (G2 : FnOk P w K mg base CX0 (k + 1) f2 fd2 ["some", "k"] (spPartners K)) (F2 : Fun K "partners" "partners" sPartners f2 fd2) (b2 : Binds K fd2 ["some", "k"] []) (g2 : mg "partners" = some (.ref f2)) (mL : mg "len" = none) (mM : mg "min" = none) : FnOk P w K mg base CX0 (k + 2) f fd ["p", "k"] (spExchange K) := by
  refine F.ok scExchange (fun vs H Q E h => ?_) (fun cdv A outer s H vs Q E hr h => ?_)
  · obtain ⟨a, p, m, rfl, _⟩ := h
    rfl
  · obtain ⟨a, p, m, rfl, hS, hO, hl, hne, kQ⟩ := h
    have nd := scExchange.nd
    refine ⟨_, pss_cons (ps_set (i := 2) nd rfl (.inl rfl) (pe_call G1 hr (by rfl) g1 F1.kp b1 .nil pass0 (pa_cons (pv 0) (pa_cons (pv 1) pa_nil))))
      (pss_cons (ps_if (pt_cmpR op_gt (pe_callB call_len_seq (by rfl) mL PySem.boot_len (pa_cons (pv 2) pa_nil)) pe_int (nomark _)) (pss_one (ps_ret pe_non)) pss_nil)
      (pss_cons (ps_set (i := 3) nd rfl (.inl rfl) (pe_call G2 hr (by rfl) g2 F2.kp b2 .nil pass0 (pa_cons (pe_ix ix_list (pv 2) pe_int (fun _ _ => rfl)) (pa_cons (pv 1) pa_nil))))
      (pss_cons (ps_if (pt_cmpR op_eq (pe_callB call_len_seq (by rfl) mL PySem.boot_len (pa_cons (pv 3) pa_nil)) pe_int (nomark _)) (pss_one (ps_ret pe_non)) pss_nil)
      (pss_one (ps_ret (pe_tup (pa_cons (pe_ix ix_list (pe_ix ix_list (pv 2) pe_int (fun _ _ => rfl)) pe_int (fun _ _ => rfl)) (pa_cons (pe_callB (cr_min rfl) (by rfl) mM (by decide +kernel) (pa_cons (pv 3) pa_nil)) pa_nil)))))))), ?_⟩
    refine q_asgP (P := IsNN K ((Cyc.longs p m).map (Cyc.round p))) (ep_callV (vs := [.ref a, vN m]) (ea_cons (ev_var rfl) (ea_cons (ev_var rfl) ea_nil)) fun H3 e3 Q3 q3 E3 => ⟨a, p, m, rfl, ex_l e3 hS, hO, hl, fun v H4 e4 hv => q3 v H4 e4 hv⟩) fun v H1 e1 hv => ?_
    obtain ⟨r, rs, rfl, hR, hRl, hRi⟩ := hv
    rw [List.length_map] at hRl
    refine q_when (b := decide (1 < (Cyc.longs p m).length)) (et_is (et_test (ev_op (ev_len (ev_var rfl) hR) ev_c rv_I0)) (by
      rw [Bool.eq_iff_iff, decide_eq_true_iff, decide_eq_true_iff, hRl]
      omega)) (fun hb H2 e2 => ?_) (fun hb H2 e2 => ?_)
    · have hb := of_decide_eq_true hb
      refine s_ret ev_c fun H3 e3 => kQ _ H3 ((e1.trans e2).trans e3) (.inl ⟨rfl, ?_⟩)
      cases hL : Cyc.longs p m with
      | nil => exact absurd hL hne
      | cons c r =>
        cases r with
        | nil =>
          rw [hL] at hb
          exact absurd hb (by show ¬ 1 < 1; decide)
        | cons d r => exact Cyc.none_two hO hL
    · have hb := of_decide_eq_false hb
      obtain ⟨c, hL⟩ : ∃ c, Cyc.longs p m = [c] := by
        cases hL : Cyc.longs p m with
        | nil => exact absurd hL hne
        | cons c r =>
          cases r with
          | nil => exact ⟨c, rfl⟩
          | cons d r =>
            rw [hL] at hb
            exact absurd (show 1 < (c :: d :: r).length by rw [List.length_cons, List.length_cons]; omega) hb
      obtain ⟨hc, hkc, _, _⟩ := Cyc.one_on hO hL
      obtain ⟨x, hx0, hx⟩ := hRi 0 (by rw [hL]; show 0 < 1; decide)
      rw [hL] at hx
      obtain ⟨xa, rfl, hxa⟩ := hx
      have hxa : SqL K H1 xa (vL (Cyc.round p c)) := hxa
      have hR2 := ex_l e2 hR
      have hxa2 := ex_l e2 hxa
      have hrl : (Cyc.round p c).length = Sn88.opens p c := Cyc.round_len p c
      have hon := (Cyc.opens_spec hO hc).2
      have ix0 : ∀ {σ' : L2.St} {H' : Hp}, σ'[2]? = some (some (.ref r)) → Ex H2 H' → Ev (tOp (rIxL K) (tVar 2) (tC (.int 0))) σ' H' (.ref xa) := fun h1 e' => ev_op (ev_var h1) ev_c (rv_ixL (ex_l e' hR2) (atI_nat (j := 0) hx0))
      refine q_asgL (xs := vL (Cyc.partners p c m)) (el_call (vs := [.ref xa, vN m]) (ea_cons (ix0 rfl (Ex.refl _)) (ea_cons (ev_var rfl) ea_nil)) fun H3 e3 Q3 q3 E3 => ⟨xa, Cyc.round p c, m, rfl, ex_l e3 hxa2, by omega, by omega, by
        rw [partnersOf_round c m hkc]
        exact q3⟩) fun y H3 ny e3 hy => ?_
      have hpl : (Cyc.partners p c m).length = 2 * m + 1 - Sn88.opens p c := by
        unfold Cyc.partners
        rw [List.length_map, List.length_range]
      refine q_when (et_eqN (ev_lenN' (ev_var rfl) (sq_of hy)) (ev_lit 0)) (fun hd H4 e4 => ?_) (fun hd H4 e4 => ?_)
      · have hd := beq_iff_eq.mp hd
        exact s_ret ev_c fun H5 e5 => kQ _ H5 ((((e1.trans e2).trans e3).trans e4).trans e5) (.inl ⟨rfl, Cyc.none_one hO hL (by omega)⟩)
      · have hd := beq_eq_false_iff_ne.mp hd
        have hc0 : (Cyc.round p c).getD 0 0 = c := by
          unfold Cyc.round
          rw [getD_mapR _ _ (by omega)]
          rfl
        have first : Ev (tOp (rIxL K) (tOp (rIxL K) (tVar 2) (tC (.int 0))) (tC (.int 0))) [some (.ref a), some (vN m), some (.ref r), some (.ref y)] H4 (vN c) := by
          have := ev_ixN (K := K) (i := 0) (ix0 (σ' := [some (.ref a), some (vN m), some (.ref r), some (.ref y)]) (H' := H4) rfl (e3.trans e4)) (ev_lit 0) (ex_l (e3.trans e4) hxa2) (by omega)
          rw [hc0] at this
          exact this
        refine first H4 (Ex.refl H4) _ fun H5 e5 => ⟨_, rfl, y, (Cyc.partners p c m).map fun n : Nat => (n : Int), rfl, sq_of ?_, ?_, fun z hz hle => ⟨by show 2 ≤ sizeLine; decide, fun t nt => ?_⟩⟩
        · rw [← vL_ints]
          exact e5 y _ (e4 y _ hy)
        · rw [List.length_map]
          omega
        · obtain ⟨b, hb, rfl⟩ := List.mem_map.mp hz
          refine kQ _ _ (((((e1.trans e2).trans e3).trans e4).trans e5).trans (Ex.new nt)) (.inr ⟨t, c, b, rfl, .inl (.inl upd_same), Cyc.some_one hO hL hb fun y hy => ?_⟩)
          have := hle (y : Int) (List.mem_map.mpr ⟨y, hy, rfl⟩)
          omega
/-! ### swap -/
theorem scSwap : FnScope ["n", "k", "p", "two"] ["n", "k", "p"] (defScope sSwap) := ⟨rfl, rfl, rfl, by decide +kernel, rfl, by decide +kernel, by decide +kernel⟩
theorem boxOk_of {n k : Int} (h : Sn88.boxOk n k = true) : (1 ≤ n ∧ n ≤ 1024) ∧ 0 ≤ k ∧ k ≤ n := by
  unfold Sn88.boxOk Sn88.between at h
  rw [Bool.and_eq_true, Bool.and_eq_true, Bool.and_eq_true] at h
  exact ⟨⟨of_decide_eq_true h.1.1, of_decide_eq_true h.1.2⟩, of_decide_eq_true h.2.1, of_decide_eq_true h.2.2⟩
def pairAns : Option (Nat × Nat) → List Int
  | some x => [1, (x.1 : Int), (x.2 : Int)]
  | none => [-5]
def swapAns (n k : Int) (l : List Nat) : List Int := if Sn88.boxOk n k = false then [-2] else if Sn88.isOrder n.toNat l = false then [-3] else if Sn88.all k.toNat l = true then [0] else
  pairAns ((Sn88.pairs n.toNat).find? fun x => Sn88.all k.toNat (Sn88.exchanged l x.1 x.2))
def spSwap (K : PySem.W.Frag) : Sp := fun vs H Q _ => ∃ (n k : Int) (a : Addr) (l : List Nat), vs = [.int n, .int k, .ref a] ∧ SqL K H a (vL l) ∧ l.length ≤ 1024 ∧ (1 ≤ n → n ≤ 1024 → (l.length : Int) = n) ∧ RetL ((swapAns n k l).map V.int) H Q
theorem ok_swap {f f1 f2 f3 : Addr} {fd fd1 fd2 fd3 : FuncData} {k : Nat} (F : Fun K "swap" "swap" sSwap f fd) (G1 : FnOk P w K mg base CX0 (k + 4) f1 fd1 ["p"] (spOrder K)) (F1 : Fun K "is_order" "is_order" sOrder f1 fd1) (b1 : Binds K fd1 ["p"] []) (g1 : mg "is_order" = some (.ref f1))
    (G2 : FnOk P w K mg base CX0 (k + 3) f2 fd2 ["p", "k"] (spTooLong K)) (F2 : Fun K "too_long" "too_long" sTooLong f2 fd2) (b2 : Binds K fd2 ["p", "k"] []) (g2 : mg "too_long" = some (.ref f2))
    (G3 : FnOk P w K mg base CX0 (k + 4) f3 fd3 ["p", "k"] (spExchange K)) (F3 : Fun K "exchange" "exchange" sExchange f3 fd3) (b3 : Binds K fd3 ["p", "k"] []) (g3 : mg "exchange" = some (.ref f3)) (mL : mg "len" = none)
    {t1 t2 t4 t5 : Tok} (c1 : mg "MOST_BOXES" = some (.int 1024 t1)) (c2 : mg "OUT_OF_RANGE" = some (.int (-2) t2)) (c4 : mg "NOT_AS_TOLD" = some (.int (-3) t4)) (c5 : mg "NO_EXCHANGE" = some (.int (-5) t5)) : FnOk P w K mg base CX0 (k + 5) f fd ["n", "k", "p"] (spSwap K) := by
  refine F.ok scSwap (fun vs H Q E h => ?_) (fun cdv A outer s H vs Q E hr h => ?_)
  · obtain ⟨n, m, a, l, rfl, _⟩ := h
    rfl
  · obtain ⟨n, m, a, l, rfl, hS, hl, hn, kQ⟩ := h
    have nd := scSwap.nd
    have hr3 : Room (k + 3) _ := hr.mono (by omega)
    refine ⟨_, pss_cons (ps_if (PW.pt (pw_or (pt_not (pt_chain op_le op_le pe_int (pv 0) (pe_glob (v := .int 1024) rfl c1 ⟨_, rfl⟩))) (pw_or1 (pt_not (pt_chain op_le op_le pe_int (pv 1) (pv 0)))))) (pss_one (ps_ret (pe_lst (pa_cons (pe_glob (v := .int (-2)) rfl c2 ⟨_, rfl⟩) pa_nil)))) pss_nil)
      (pss_cons (ps_if (pt_not (pt_val (pe_call G1 hr (by rfl) g1 F1.kp b1 .nil pass0 (pa_cons (pv 2) pa_nil)))) (pss_one (ps_ret (pe_lst (pa_cons (pe_glob (v := .int (-3)) rfl c4 ⟨_, rfl⟩) pa_nil)))) pss_nil)
      (pss_cons (ps_if (pt_cmpR op_eq (pe_callB call_len_seq (by rfl) mL PySem.boot_len (pa_cons (pe_call G2 hr3 (by rfl) g2 F2.kp b2 .nil pass0 (pa_cons (pv 2) (pa_cons (pv 1) pa_nil))) pa_nil)) pe_int (nomark _)) (pss_one (ps_ret (pe_lst (pa_cons pe_int pa_nil)))) pss_nil)
      (pss_cons (ps_set (i := 3) nd rfl (.inl rfl) (pe_call G3 hr (by rfl) g3 F3.kp b3 .nil pass0 (pa_cons (pv 2) (pa_cons (pv 1) pa_nil))))
      (pss_cons (ps_if (pt_cmpR op_isN (pv 3) pe_non (nomark _)) (pss_one (ps_ret (pe_lst (pa_cons (pe_glob (v := .int (-5)) rfl c5 ⟨_, rfl⟩) pa_nil)))) pss_nil)
      (pss_one (ps_ret (pe_lst (pa_cons pe_int (pa_cons (pe_ix ix_tup (pv 3) pe_int (fun _ _ => rfl)) (pa_cons (pe_ix ix_tup (pv 3) pe_int (fun _ _ => rfl)) pa_nil)))))))))), ?_⟩
    refine q_when (b := !Sn88.boxOk n m) (et_is (et_or (et_not (et_test (ev_le2 ev_c (ev_var rfl) ev_c))) (fun _ => et_not (et_test (ev_le2 ev_c (ev_var rfl) (ev_var rfl))))) (by
      rw [← Bool.not_and]
      rfl)) (fun hb H1 e1 => ?_) (fun hb H1 e1 => ?_)
    · refine s_retL (el_lst (ea_cons ev_c ea_nil) (by show 1 ≤ 100000; decide)) fun p H2 hp e2 h2 => kQ p H2 (fresh_back e1 hp) (e1.trans e2) ?_
      rw [h2]
      unfold swapAns
      rw [if_pos (b_not hb)]
      rfl
    · have hb' := b_yes hb
      obtain ⟨⟨hn1, hn2⟩, hm1, hm2⟩ := boxOk_of hb'
      have hlen := hn hn1 hn2
      have hnn : n.toNat = l.length := by omega
      have hS1 := ex_l e1 hS
      refine q_when (b := !(Sn88.isOrder l.length l)) (et_not (et_B (ev_call (ea_cons (ev_var rfl) ea_nil) fun H2 e2 Q2 q2 E2 => ⟨a, l, rfl, ex_l e2 hS1, by omega, q2⟩))) (fun hc H2 e2 => ?_) (fun hc H2 e2 => ?_)
      · refine s_retL (el_lst (ea_cons ev_c ea_nil) (by show 1 ≤ 100000; decide)) fun p H3 hp e3 h3 => kQ p H3 (fresh_back (e1.trans e2) hp) ((e1.trans e2).trans e3) ?_
        rw [h3]
        unfold swapAns
        rw [if_neg (by rw [hb']; decide), hnn, if_pos (b_not hc)]
        rfl
      · have hc' := b_yes hc
        have hO := Cyc.Ord.of hc'
        have hmm : V.int m = vN m.toNat := by
          show V.int m = V.int (m.toNat : Int)
          rw [Int.toNat_of_nonneg hm1]
        have e12 := e1.trans e2
        have hS2 := ex_l e2 hS1
        refine q_when (b := ((Cyc.longs l m.toNat).map (Cyc.round l)).length == 0) (et_eqN (ev_lenNN (ep_callV (vs := [.ref a, .int m]) (ea_cons (ev_var rfl) (ea_cons (ev_var rfl) ea_nil)) fun H3 e3 Q3 q3 E3 => ⟨a, l, m.toNat, by rw [← hmm] <;> rfl, ex_l e3 hS2, hO, hl, fun v H4 e4 hv => q3 v H4 e4 hv⟩)) (ev_lit 0)) (fun hd H3 e3 => ?_) (fun hd H3 e3 => ?_)
        · have hnil : Cyc.longs l m.toNat = [] := by
            have := beq_iff_eq.mp hd
            rw [List.length_map] at this
            exact List.length_eq_zero_iff.mp this
          have hall := (Cyc.longs_nil hO m.toNat).mp hnil
          refine s_retL (el_lst (ea_cons ev_c ea_nil) (by show 1 ≤ 100000; decide)) fun p H4 hp e4 h4 => kQ p H4 (fresh_back (e12.trans e3) hp) ((e12.trans e3).trans e4) ?_
          rw [h4]
          unfold swapAns
          rw [if_neg (by rw [hb']; decide), hnn, if_neg (by rw [hc']; decide), if_pos hall]
          rfl
        · have hne : Cyc.longs l m.toNat ≠ [] := fun z => by
            rw [z] at hd
            cases hd
          have hall : ¬ Sn88.all m.toNat l = true := fun z => hne ((Cyc.longs_nil hO m.toNat).mpr z)
          have hans : swapAns n m l = pairAns (firstPair l m.toNat) := by
            unfold swapAns firstPair
            rw [if_neg (by rw [hb']; decide), hnn, if_neg (by rw [hc']; decide), if_neg hall]
          have e13 := e12.trans e3
          refine q_asgP (P := IsPair K (firstPair l m.toNat)) (ep_callV (vs := [.ref a, .int m]) (ea_cons (ev_var rfl) (ea_cons (ev_var rfl) ea_nil)) fun H4 e4 Q4 q4 E4 => ⟨a, l, m.toNat, by rw [← hmm] <;> rfl, ex_l (e3.trans e4) hS2, hO, hl, hne, fun v H5 e5 hv => q4 v H5 e5 hv⟩) fun v H4 e4 hv => ?_
          refine q_when (b := decide (v = .non)) (et_test (ev_op (ev_var rfl) ev_c (rv_val fun H5 e5 Q5 q5 => ⟨rfl, q5⟩))) (fun hx H5 e5 => ?_) (fun hx H5 e5 => ?_)
          · have hx := of_decide_eq_true hx
            refine s_retL (el_lst (ea_cons ev_c ea_nil) (by show 1 ≤ 100000; decide)) fun p H6 hp e6 h6 => kQ p H6 (fresh_back (e13.trans (e4.trans e5)) hp) ((e13.trans (e4.trans e5)).trans e6) ?_
            rcases hv with ⟨_, ho⟩ | ⟨t, c, b, h1, _⟩
            · rw [h6, hans, ho]
              rfl
            · rw [hx] at h1
              cases h1
          · have hx := of_decide_eq_false hx
            rcases hv with ⟨h1, _⟩ | ⟨t, c, b, rfl, hT, ho⟩
            · exact absurd h1 hx
            · refine s_retL (el_lst (vs := [V.int 1, vN c, vN b]) (ea_cons ev_c (ea_cons (ev_op (ev_var rfl) ev_c (rv_ixT (ex_t e5 hT) (atI_nat (j := 0) rfl))) (ea_cons (ev_op (ev_var rfl) ev_c (rv_ixT (ex_t e5 hT) (atI_nat (j := 1) rfl))) ea_nil))) (by show 3 ≤ 100000; decide)) fun p H6 hp e6 h6 => kQ p H6 (fresh_back (e13.trans (e4.trans e5)) hp) ((e13.trans (e4.trans e5)).trans e6) ?_
              rw [h6, hans, ho]
              rfl
end
/-! ### the specification's words -/
theorem spec_swap (n k : Int) (h : List Int) : PySn88.swap n k h = swapAns n k (h.map Int.toNat) := by
  have key : ∀ o : Option (Nat × Nat), ((match o with
      | some x => ⟨1, [x.1, x.2]⟩
      | none => Sn88.ok (-5) : Sn88.Ans).v :: (match o with
      | some x => ⟨1, [x.1, x.2]⟩
      | none => Sn88.ok (-5) : Sn88.Ans).l.map fun (x : Nat) => (x : Int)) = pairAns o := fun o => by
    cases o with
    | none => rfl
    | some x => rfl
  unfold swapAns
  rw [← key]
  show ((if Sn88.boxOk n k = false then Sn88.ok (-2) else if Sn88.isOrder n.toNat (h.map Int.toNat) = false then Sn88.ok (-3) else if Sn88.all k.toNat (h.map Int.toNat) = true then Sn88.ok 0 else match (Sn88.pairs n.toNat).find? (fun x => Sn88.all k.toNat (Sn88.exchanged (h.map Int.toNat) x.1 x.2)) with
      | some x => ⟨1, [x.1, x.2]⟩
      | none => Sn88.ok (-5) : Sn88.Ans).v :: (if Sn88.boxOk n k = false then Sn88.ok (-2) else if Sn88.isOrder n.toNat (h.map Int.toNat) = false then Sn88.ok (-3) else if Sn88.all k.toNat (h.map Int.toNat) = true then Sn88.ok 0 else match (Sn88.pairs n.toNat).find? (fun x => Sn88.all k.toNat (Sn88.exchanged (h.map Int.toNat) x.1 x.2)) with
      | some x => ⟨1, [x.1, x.2]⟩
      | none => Sn88.ok (-5) : Sn88.Ans).l.map fun (x : Nat) => (x : Int)) = _
  split
  · rfl
  · split
    · rfl
    · split
      · rfl
      · rfl
theorem asked_swap {n k : Int} {h : List Int} (ha : PySn88.swap_asked n k h = true) : (∀ x, x ∈ h → 0 ≤ x) ∧ (h.length : Int) = if 1 ≤ n ∧ n ≤ 1024 then n else 0 := by
  have a1 : (Sn88Neutral.whole32 n && (Sn88Neutral.whole32 k && (h.all (fun (z : Int) => Sn88Neutral.natural z 16) && (decide ((h.length : Int) = if 1 ≤ n ∧ n ≤ 1024 then n else 0))))) = true := by
    have := (Bool.and_eq_true_iff.mp (show ([[[6, n, k], h]].all Sn88Neutral.asked1 && (decide (1 ≤ [[[6, n, k], h]].length) && decide ([[[6, n, k], h]].length ≤ 100))) = true from ha)).1
    rw [List.all_cons, List.all_nil, Bool.and_true] at this
    exact this
  rw [Bool.and_eq_true, Bool.and_eq_true, Bool.and_eq_true] at a1
  exact ⟨fun x hx => nat_of (b := 16) (List.all_eq_true.mp a1.2.2.1 x hx), of_decide_eq_true a1.2.2.2⟩
theorem boxes_len {n : Int} {h : List Int} (hlen : (h.length : Int) = if 1 ≤ n ∧ n ≤ 1024 then n else 0) : h.length ≤ 1024 ∧ (1 ≤ n → n ≤ 1024 → (h.length : Int) = n) := by
  refine ⟨?_, fun a b => by rw [hlen, if_pos ⟨a, b⟩]⟩
  split at hlen <;> omega
/-! ### the end -/
theorem all_mk {P : Program} {w : World} {K : PySem.W.Frag} {h : Heap} {mg : Str → Option Value} {fa f1 f2 f3 f4 f5 f6 f7 : Addr} (X : K.In h) (G : h.Ns mainGlobals mg) (hfa : mg "swap" = some (.ref fa))
    {od1 an1 od2 an2 od3 an3 od4 an4 od5 an5 od6 an6 od7 an7 : Option Addr} {sl1 sl2 sl3 sl4 sl5 sl6 sl7 : Array (Option Value)} {oc1 kV1 dc1 pm1 cd1 ct1 oc2 kV2 dc2 pm2 cd2 ct2 oc3 kV3 dc3 pm3 cd3 ct3 oc4 kV4 dc4 pm4 cd4 ct4 oc5 kV5 dc5 pm5 cd5 ct5 oc6 kV6 dc6 pm6 cd6 ct6 oc7 kV7 dc7 pm7 cd7 ct7 : Value} {t1 t2 t3 t4 : Tok}
    (a1 : PySem.W.nsIn K mainGlobals "is_order" = some (some (.ref f1))) (l1 : K.lookup f1 = some ⟨oc1, od1, .func (PySem.W.fnOf "is_order" "is_order" (defArgs sOrder) (defBody sOrder) (defScope sOrder) .none kV1 dc1 pm1 an1 cd1 ct1), sl1⟩) (c1 : PySem.W.codeIn K cd1 "is_order" = true) (k1 : PySem.W.keepIn K (.ref f1) = true)
    (a2 : PySem.W.nsIn K mainGlobals "round_from" = some (some (.ref f2))) (l2 : K.lookup f2 = some ⟨oc2, od2, .func (PySem.W.fnOf "round_from" "round_from" (defArgs sRound) (defBody sRound) (defScope sRound) .none kV2 dc2 pm2 an2 cd2 ct2), sl2⟩) (c2 : PySem.W.codeIn K cd2 "round_from" = true) (k2 : PySem.W.keepIn K (.ref f2) = true)
    (a3 : PySem.W.nsIn K mainGlobals "rounds_of" = some (some (.ref f3))) (l3 : K.lookup f3 = some ⟨oc3, od3, .func (PySem.W.fnOf "rounds_of" "rounds_of" (defArgs sRounds) (defBody sRounds) (defScope sRounds) .none kV3 dc3 pm3 an3 cd3 ct3), sl3⟩) (c3 : PySem.W.codeIn K cd3 "rounds_of" = true) (k3 : PySem.W.keepIn K (.ref f3) = true)
    (a4 : PySem.W.nsIn K mainGlobals "too_long" = some (some (.ref f4))) (l4 : K.lookup f4 = some ⟨oc4, od4, .func (PySem.W.fnOf "too_long" "too_long" (defArgs sTooLong) (defBody sTooLong) (defScope sTooLong) .none kV4 dc4 pm4 an4 cd4 ct4), sl4⟩) (c4 : PySem.W.codeIn K cd4 "too_long" = true) (k4 : PySem.W.keepIn K (.ref f4) = true)
    (a5 : PySem.W.nsIn K mainGlobals "partners" = some (some (.ref f5))) (l5 : K.lookup f5 = some ⟨oc5, od5, .func (PySem.W.fnOf "partners" "partners" (defArgs sPartners) (defBody sPartners) (defScope sPartners) .none kV5 dc5 pm5 an5 cd5 ct5), sl5⟩) (c5 : PySem.W.codeIn K cd5 "partners" = true) (k5 : PySem.W.keepIn K (.ref f5) = true)
    (a6 : PySem.W.nsIn K mainGlobals "exchange" = some (some (.ref f6))) (l6 : K.lookup f6 = some ⟨oc6, od6, .func (PySem.W.fnOf "exchange" "exchange" (defArgs sExchange) (defBody sExchange) (defScope sExchange) .none kV6 dc6 pm6 an6 cd6 ct6), sl6⟩) (c6 : PySem.W.codeIn K cd6 "exchange" = true) (k6 : PySem.W.keepIn K (.ref f6) = true)
    (a7 : PySem.W.nsIn K mainGlobals "swap" = some (some (.ref f7))) (l7 : K.lookup f7 = some ⟨oc7, od7, .func (PySem.W.fnOf "swap" "swap" (defArgs sSwap) (defBody sSwap) (defScope sSwap) .none kV7 dc7 pm7 an7 cd7 ct7), sl7⟩) (c7 : PySem.W.codeIn K cd7 "swap" = true) (k7 : PySem.W.keepIn K (.ref f7) = true)
    (b1 : PySem.W.nsIn K mainGlobals "MOST_BOXES" = some (some (.int 1024 t1)))
    (b2 : PySem.W.nsIn K mainGlobals "OUT_OF_RANGE" = some (some (.int (-2) t2)))
    (b3 : PySem.W.nsIn K mainGlobals "NOT_AS_TOLD" = some (some (.int (-3) t3)))
    (b4 : PySem.W.nsIn K mainGlobals "NO_EXCHANGE" = some (some (.int (-5) t4)))
    (z1 : PySem.W.nsIn K mainGlobals "sorted" = some none)
    (z2 : PySem.W.nsIn K mainGlobals "list" = some none)
    (z3 : PySem.W.nsIn K mainGlobals "range" = some none)
    (z4 : PySem.W.nsIn K mainGlobals "len" = some none)
    (z5 : PySem.W.nsIn K mainGlobals "min" = some none)
    : ∃ fd : FuncData, (∀ (s : Shared) (us : List Value), us.length = (["n", "k", "p"] : List Str).length → BindsTo s fd ⟨us, []⟩ ((["n", "k", "p"] : List Str).zip us)) ∧ ∀ base : Heap, K.In base → base.Ns mainGlobals mg → FnOk P w K mg base CX0 5 fa fd ["n", "k", "p"] (spSwap K) := by
  have e := hfa.symm.trans (PySem.W.mg_of X G a7)
  cases e
  have F_is_order := fun_mk (st := sOrder) l1 c1 k1
  have d_is_order := F_is_order.binds (ps := ["p"]) fun _ _ _ _ _ _ us hl => match us, hl with | [_], _ => rfl
  have g_is_order := PySem.W.mg_of X G a1
  have F_round_from := fun_mk (st := sRound) l2 c2 k2
  have d_round_from := F_round_from.binds (ps := ["p", "box"]) fun _ _ _ _ _ _ us hl => match us, hl with | [_, _], _ => rfl
  have g_round_from := PySem.W.mg_of X G a2
  have F_rounds_of := fun_mk (st := sRounds) l3 c3 k3
  have d_rounds_of := F_rounds_of.binds (ps := ["p"]) fun _ _ _ _ _ _ us hl => match us, hl with | [_], _ => rfl
  have g_rounds_of := PySem.W.mg_of X G a3
  have F_too_long := fun_mk (st := sTooLong) l4 c4 k4
  have d_too_long := F_too_long.binds (ps := ["p", "k"]) fun _ _ _ _ _ _ us hl => match us, hl with | [_, _], _ => rfl
  have g_too_long := PySem.W.mg_of X G a4
  have F_partners := fun_mk (st := sPartners) l5 c5 k5
  have d_partners := F_partners.binds (ps := ["some", "k"]) fun _ _ _ _ _ _ us hl => match us, hl with | [_, _], _ => rfl
  have g_partners := PySem.W.mg_of X G a5
  have F_exchange := fun_mk (st := sExchange) l6 c6 k6
  have d_exchange := F_exchange.binds (ps := ["p", "k"]) fun _ _ _ _ _ _ us hl => match us, hl with | [_, _], _ => rfl
  have g_exchange := PySem.W.mg_of X G a6
  have F_swap := fun_mk (st := sSwap) l7 c7 k7
  have d_swap := F_swap.binds (ps := ["n", "k", "p"]) fun _ _ _ _ _ _ us hl => match us, hl with | [_, _, _], _ => rfl
  have g_swap := PySem.W.mg_of X G a7
  have c_MOST_BOXES := PySem.W.mg_of X G b1
  have c_OUT_OF_RANGE := PySem.W.mg_of X G b2
  have c_NOT_AS_TOLD := PySem.W.mg_of X G b3
  have c_NO_EXCHANGE := PySem.W.mg_of X G b4
  have m_sorted := PySem.W.mg_none_of X G z1
  have m_list := PySem.W.mg_none_of X G z2
  have m_range := PySem.W.mg_none_of X G z3
  have m_len := PySem.W.mg_none_of X G z4
  have m_min := PySem.W.mg_none_of X G z5
  refine ⟨PySem.W.fnOf "swap" "swap" (defArgs sSwap) (defBody sSwap) (defScope sSwap) .none kV7 dc7 pm7 an7 cd7 ct7, fun s us hu => match us, hu with | [_, _, _], _ => .of_eq rfl, fun base _ _ => ?_⟩
  have GT : ∀ j, FnOk P w K mg base CX0 (j + 3) f4 _ ["p", "k"] (spTooLong K) := fun j => ok_toolong (k := j) F_too_long (ok_rounds (k := j) F_rounds_of (ok_round F_round_from) F_round_from d_round_from g_round_from m_len m_range) F_rounds_of d_rounds_of g_rounds_of m_len
  exact ok_swap (k := 0) F_swap (ok_order (k := 3) F_is_order m_len m_range m_sorted m_list) F_is_order d_is_order g_is_order (GT 0) F_too_long d_too_long g_too_long (ok_exchange (k := 2) F_exchange (GT 0) F_too_long d_too_long g_too_long (ok_partners (k := 2) F_partners m_len m_range) F_partners d_partners g_partners m_len m_min) F_exchange d_exchange g_exchange m_len c_MOST_BOXES c_OUT_OF_RANGE c_NOT_AS_TOLD c_NO_EXCHANGE
end Hb
open PySem PySem.W PyProof.Rows
set_option maxRecDepth 100000 in
set_option maxHeartbeats 8000000 in
theorem PySem.Challenge.cw_hatboxes_s07_swap_holds : PySem.Challenge.rw_hatboxes_s07_swap.Holds := by
  w_on; k_headS; (case hw => exact ⟨[.int 0, .int 0, .list []], by decide +kernel, by decide +kernel⟩)
  k_fillS
  refine L2.walk_specK (r := PySem.Challenge.rw_hatboxes_s07_swap) (k := 5) (CX := L2.CX0) (ps := ["n", "k", "p"]) (sp := Hb.spSwap) (by decide +kernel) rfl rfl ⟨rfl, by decide, by decide⟩ (fun w h Y => PySem.W.kIn_of Y) ?F ?S (fun _ _ _ _ z => z)
  case F =>
    intro w mg fa h Y KX G hmg
    refine' Hb.all_mk KX G hmg ?a1 ?l1 ?c1 ?k1 ?a2 ?l2 ?c2 ?k2 ?a3 ?l3 ?c3 ?k3 ?a4 ?l4 ?c4 ?k4 ?a5 ?l5 ?c5 ?k5 ?a6 ?l6 ?c6 ?k6 ?a7 ?l7 ?c7 ?k7 ?b1 ?b2 ?b3 ?b4 ?z1 ?z2 ?z3 ?z4 ?z5
    (case a1 => k_is)
    (case l1 => k_is)
    (case c1 => k_is)
    (case k1 => k_is)
    (case a2 => k_is)
    (case l2 => k_is)
    (case c2 => k_is)
    (case k2 => k_is)
    (case a3 => k_is)
    (case l3 => k_is)
    (case c3 => k_is)
    (case k3 => k_is)
    (case a4 => k_is)
    (case l4 => k_is)
    (case c4 => k_is)
    (case k4 => k_is)
    (case a5 => k_is)
    (case l5 => k_is)
    (case c5 => k_is)
    (case k5 => k_is)
    (case a6 => k_is)
    (case l6 => k_is)
    (case c6 => k_is)
    (case k6 => k_is)
    (case a7 => k_is)
    (case l7 => k_is)
    (case c7 => k_is)
    (case k7 => k_is)
    (case b1 => k_is)
    (case b2 => k_is)
    (case b3 => k_is)
    (case b4 => k_is)
    (case z1 => k_is)
    (case z2 => k_is)
    (case z3 => k_is)
    (case z4 => k_is)
    (case z5 => k_is)
  case S =>
    intro K H xs a hO hwi hask hx
    obtain ⟨n, k, h, u⟩ := a
    cases hx with
    | cons h1 hx =>
      cases hx with
      | cons h2 hx =>
        cases hx with
        | cons h3 hx =>
          cases hx
          cases h1
          cases h2
          cases h3 with
          | lst hs ha =>
            have e := L2.ints_dw h _ ha
            subst e
            obtain ⟨hpos, hlen⟩ := Hb.asked_swap (n := n) (k := k) (h := h) hask
            have hl := Hb.boxes_len (n := n) (h := h) hlen
            rw [Hb.ints_vL hpos] at hs
            refine ⟨n, k, _, h.map Int.toNat, rfl, hs, ?_, fun a b => ?_, fun p H' hp _ h' => ?_⟩
            · rw [List.length_map]
              exact hl.1
            · rw [List.length_map]
              exact hl.2 a b
            · rw [← Hb.spec_swap] at h'
              exact .lst (L2.SqL.of h') (L2.dw_ints _)
#print axioms PySem.Challenge.cw_hatboxes_s07_swap_holds
