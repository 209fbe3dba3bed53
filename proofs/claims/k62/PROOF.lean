import PyProof.Rows.All
import Wide.All
import OpenK.AllK
import Wide.FinOn
import HandS.ForMost
import HandS.Evl
import HandS.Deep
import HandS.Strs
import HandS.SetFor
import HandS.Star
import HandS.ClsMeth
import HandS.Property
import HandS.Style
import HandS.FStr
import HandS.IsInst
import HandS.Codes
import HandS.Wide
import KE.DataFind
import PySem.Challenge.RW_countcycles_k62_which_rules_follow
set_option Elab.async false
set_option linter.all false
set_option maxRecDepth 100000
set_option maxHeartbeats 4000000
/-! A layer over readings: what expressions are worth as plain data, over a part G of the heap that stands still. -/
namespace CL
open PySem L2
abbrev Ex : Hp → Hp → Prop := Evl.Ex
abbrev VSt := List (Option V)
theorem Ex.refl (H : Hp) : Ex H H := fun _ _ h => h
theorem Ex.trans {A B C : Hp} (a : Ex A B) (b : Ex B C) : Ex A C := fun x o h => b x o (a x o h)
theorem Ex.back {A B : Hp} (e : Ex A B) {p : Addr} (h : B p = none) : A p = none := by
  cases q : A p with
  | none => rfl
  | some o => rw [e p o q] at h; cases h

theorem up_rd {A B : Hp} {a : Addr} {u : HO} (h : Rd A a u) (e : Ex A B) : Rd B a u := Evl.ex_rd e h

/-! ### data at an address -/
mutual
inductive DD (G : Hp) : V → PyData → Prop
  | non : DD G .non .none
  | bl (b : Bool) : DD G (.bl b) (.bool b)
  | int (i : Int) : DD G (.int i) (.int i)
  | str (x : Str) : DD G (.str x) (.str x)
  | lst {a : Addr} {xs : List V} {ds : List PyData} : G a = some (.lst xs) → DDs G xs ds → DD G (.ref a) (.list ds)
  | tup {a : Addr} {xs : List V} {ds : List PyData} : Rd G a (.tup xs) → DDs G xs ds → DD G (.ref a) (.tuple ds)
inductive DDs (G : Hp) : List V → List PyData → Prop
  | nil : DDs G [] []
  | cons {v : V} {vs : List V} {d : PyData} {ds : List PyData} : DD G v d → DDs G vs ds → DDs G (v :: vs) (d :: ds)
end
section
variable {G H : Hp}
mutual
theorem DD.mono (e : Ex G H) : ∀ (d : PyData) (v : V), DD G v d → DD H v d
  | .none, _, h => by cases h; exact .non
  | .bool b, _, h => by cases h; exact .bl b
  | .int i, _, h => by cases h; exact .int i
  | .str x, _, h => by cases h; exact .str x
  | .list ds, _, h => by cases h with | lst h1 h2 => exact .lst (e _ _ h1) (DDs.mono e ds _ h2)
  | .tuple ds, _, h => by cases h with | tup h1 h2 => exact .tup (up_rd h1 e) (DDs.mono e ds _ h2)
  | .dict _, _, h => by cases h
theorem DDs.mono (e : Ex G H) : ∀ (ds : List PyData) (vs : List V), DDs G vs ds → DDs H vs ds
  | [], _, h => by cases h; exact .nil
  | d :: ds, _, h => by cases h with | cons h1 h2 => exact .cons (DD.mono e d _ h1) (DDs.mono e ds _ h2)
end
mutual
theorem DD.dp {K : PySem.W.Frag} (e : Ex G H) : ∀ (d : PyData) (v : V), DD G v d → Dp K H v d
  | .none, _, h => by cases h; exact .non
  | .bool b, _, h => by cases h; exact .bl b
  | .int i, _, h => by cases h; exact .int i
  | .str x, _, h => by cases h; exact .str x
  | .list ds, _, h => by cases h with | lst h1 h2 => exact .lst (.inl (.inl (e _ _ h1))) (DDs.dp e ds _ h2)
  | .tuple ds, _, h => by cases h with | tup h1 h2 => exact .tup (.inl (up_rd h1 e)) (DDs.dp e ds _ h2)
  | .dict _, _, h => by cases h
theorem DDs.dp {K : PySem.W.Frag} (e : Ex G H) : ∀ (ds : List PyData) (vs : List V), DDs G vs ds → DpAll K H vs ds
  | [], _, h => by cases h; exact .nil
  | d :: ds, _, h => by cases h with | cons h1 h2 => exact .cons (DD.dp e d _ h1) (DDs.dp e ds _ h2)
end
theorem DD.up {v : V} {d : PyData} (h : DD G v d) (e : Ex G H) : DD H v d := DD.mono e d v h
theorem DDs.up {v : List V} {d : List PyData} (h : DDs G v d) (e : Ex G H) : DDs H v d := DDs.mono e d v h
theorem DD.eqN {v : V} (h : DD G v .none) : v = .non := by cases h; rfl
theorem DD.eqB {v : V} {b : Bool} (h : DD G v (.bool b)) : v = .bl b := by cases h; rfl
theorem DD.eqI {v : V} {i : Int} (h : DD G v (.int i)) : v = .int i := by cases h; rfl
theorem DD.eqS {v : V} {x : Str} (h : DD G v (.str x)) : v = .str x := by cases h; rfl
theorem DD.eqL {v : V} {ds : List PyData} (h : DD G v (.list ds)) : ∃ a xs, v = .ref a ∧ G a = some (.lst xs) ∧ DDs G xs ds := by
  cases h with | lst h1 h2 => exact ⟨_, _, rfl, h1, h2⟩
theorem DD.eqT {v : V} {ds : List PyData} (h : DD G v (.tuple ds)) : ∃ a xs, v = .ref a ∧ Rd G a (.tup xs) ∧ DDs G xs ds := by
  cases h with | tup h1 h2 => exact ⟨_, _, rfl, h1, h2⟩
theorem DDs.length : ∀ {vs : List V} {ds : List PyData}, DDs G vs ds → vs.length = ds.length
  | _, [], h => by cases h; rfl
  | _, d :: ds, h => by cases h with | cons h1 h2 => rw [List.length_cons, List.length_cons, DDs.length h2]
theorem DDs.append : ∀ {vs ws : List V} {ds es : List PyData}, DDs G vs ds → DDs G ws es → DDs G (vs ++ ws) (ds ++ es)
  | _, _, [], _, h, k => by cases h; exact k
  | _, _, d :: ds, _, h, k => by cases h with | cons h1 h2 => exact .cons h1 (DDs.append h2 k)
theorem DDs.take : ∀ {vs : List V} {ds : List PyData} (n : Nat), DDs G vs ds → DDs G (vs.take n) (ds.take n)
  | _, [], n, h => by cases h; rw [List.take_nil, List.take_nil]; exact .nil
  | _, d :: ds, 0, h => by rw [List.take_zero, List.take_zero]; exact .nil
  | _, d :: ds, n + 1, h => by cases h with | cons h1 h2 => exact .cons h1 (DDs.take n h2)
theorem DDs.drop : ∀ {vs : List V} {ds : List PyData} (n : Nat), DDs G vs ds → DDs G (vs.drop n) (ds.drop n)
  | _, [], n, h => by cases h; rw [List.drop_nil, List.drop_nil]; exact .nil
  | _, d :: ds, 0, h => h
  | _, d :: ds, n + 1, h => by cases h with | cons h1 h2 => exact DDs.drop n h2
theorem DDs.get : ∀ {vs : List V} {ds : List PyData} {i : Nat} {d : PyData}, DDs G vs ds → ds[i]? = some d → ∃ v, vs[i]? = some v ∧ DD G v d
  | _, [], _, _, h, e => by simp at e
  | _, d :: ds, 0, _, h, e => by
    cases h with | cons h1 h2 =>
    simp at e; subst e; exact ⟨_, rfl, h1⟩
  | _, d :: ds, i + 1, _, h, e => by
    cases h with | cons h1 h2 =>
    simp at e
    obtain ⟨v, a, b⟩ := DDs.get h2 e
    exact ⟨v, by simpa using a, b⟩
theorem DDs.at : ∀ {vs : List V} {ds : List PyData} {i : Nat} {v : V}, DDs G vs ds → vs[i]? = some v → ∃ d, ds[i]? = some d ∧ DD G v d := fun {vs ds i v} h e => by
  have hl := h.length
  have hi : i < ds.length := by rw [← hl]; exact (List.getElem?_eq_some_iff.mp e).1
  obtain ⟨w, a, b⟩ := h.get (i := i) (List.getElem?_eq_getElem hi)
  rw [e] at a
  cases a
  exact ⟨_, List.getElem?_eq_getElem hi, b⟩
theorem DDs.ints : ∀ {vs : List V} {ns : List Int}, DDs G vs (ns.map PyData.int) → vs = ns.map V.int
  | _, [], h => by cases h; rfl
  | _, n :: ns, h => by cases h with | cons h1 h2 => rw [h1.eqI, DDs.ints h2]; rfl
theorem DDs.ofInts (G : Hp) : ∀ (ns : List Int), DDs G (ns.map V.int) (ns.map PyData.int)
  | [] => .nil
  | n :: ns => .cons (.int n) (DDs.ofInts G ns)
theorem DDs.strs : ∀ {vs : List V} {ns : List Str}, DDs G vs (ns.map PyData.str) → vs = ns.map V.str
  | _, [], h => by cases h; rfl
  | _, n :: ns, h => by cases h with | cons h1 h2 => rw [h1.eqS, DDs.strs h2]; rfl
theorem DDs.ofStrs (G : Hp) : ∀ (ns : List Str), DDs G (ns.map V.str) (ns.map PyData.str)
  | [] => .nil
  | n :: ns => .cons (.str n) (DDs.ofStrs G ns)
theorem DDs.bls : ∀ {vs : List V} {ns : List Bool}, DDs G vs (ns.map PyData.bool) → vs = ns.map V.bl
  | _, [], h => by cases h; rfl
  | _, n :: ns, h => by cases h with | cons h1 h2 => rw [h1.eqB, DDs.bls h2]; rfl
theorem DDs.inv {vs : List V} {d : PyData} {ds : List PyData} (h : DDs G vs (d :: ds)) : ∃ v r, vs = v :: r ∧ DD G v d ∧ DDs G r ds := by
  cases h with | cons h1 h2 => exact ⟨_, _, rfl, h1, h2⟩
theorem DDs.inv0 {vs : List V} (h : DDs G vs []) : vs = [] := by cases h; rfl
theorem DDs.one {v : V} {d : PyData} (h : DD G v d) : DDs G [v] [d] := .cons h .nil
end

/-! ### how heap and still part grow -/
structure Grow (M : Addr → Prop) (G H G2 H2 : Hp) : Prop where
  g : Ex G G2
  gh : Ex G2 H2
  keep : ∀ a o, ¬ M a → H a = some o → H2 a = some o
  there : ∀ a, H2 a = none → H a = none
  new : ∀ a, H a ≠ none → G a = none → G2 a = none
def M0 : Addr → Prop := fun _ => False
section
variable {M N : Addr → Prop} {G H G1 H1 G2 H2 : Hp} {p : Addr} {o : HO}
theorem Grow.refl (e : Ex G H) : Grow M G H G H := ⟨Ex.refl G, e, fun _ _ _ h => h, fun _ h => h, fun _ _ h => h⟩
theorem Grow.trans (a : Grow M G H G1 H1) (b : Grow M G1 H1 G2 H2) : Grow M G H G2 H2 :=
  ⟨a.g.trans b.g, b.gh, fun x o hm h => b.keep x o hm (a.keep x o hm h), fun x h => a.there x (b.there x h), fun x h1 h2 => b.new x (fun z => h1 (a.there x z)) (a.new x h1 h2)⟩
theorem Grow.weak (a : Grow N G H G1 H1) (h : ∀ x, N x → M x) : Grow M G H G1 H1 := ⟨a.g, a.gh, fun x o hm => a.keep x o fun z => hm (h x z), a.there, a.new⟩
theorem Grow.of0 (a : Grow M0 G H G1 H1) : Grow M G H G1 H1 := a.weak fun _ z => z.elim
theorem Grow.then0 (a : Grow M G H G1 H1) (b : Grow M0 G1 H1 G2 H2) : Grow M G H G2 H2 := a.trans b.of0
theorem Grow.ex (a : Grow M0 G H G1 H1) : Ex H H1 := fun x o h => a.keep x o (fun z => z) h
theorem Grow.laid (e : Ex G H) (h : H p = none) : Grow M G H (upd G p o) (upd H p o) := by
  have hg : G p = none := e.back h
  refine ⟨fun a u q => ?_, fun a u q => ?_, fun a u _ q => ?_, fun a q => ?_, fun a q1 q2 => ?_⟩
  · rw [upd_ne (ne_of_none q hg)]; exact q
  · by_cases z : a = p
    · subst z; rw [upd_same] at q ⊢; exact q
    · rw [upd_ne z] at q ⊢; exact e a u q
  · rw [upd_ne (ne_of_none q h)]; exact q
  · by_cases z : a = p
    · subst z; exact h
    · rw [upd_ne z] at q; exact q
  · have z : a ≠ p := fun z => q1 (by rw [z]; exact h)
    rw [upd_ne z]; exact q2
/-- a new object that may change -/
theorem Grow.mnew (e : Ex G H) (h : H p = none) : Grow M G H G (upd H p o) := by
  refine ⟨Ex.refl G, fun a u q => ?_, fun a u _ q => ?_, fun a q => ?_, fun a _ q2 => q2⟩
  · rw [upd_ne (ne_of_none q (e.back h))]; exact e a u q
  · rw [upd_ne (ne_of_none q h)]; exact q
  · by_cases z : a = p
    · subst z; exact h
    · rw [upd_ne z] at q; exact q
/-- an object changed that the entry did not know, or that may change -/
theorem Grow.set (a : Grow M G H G1 H1) (h0 : H p = none ∨ M p) (hg : G1 p = none) (ht : H1 p ≠ none) : Grow M G H G1 (upd H1 p o) := by
  refine ⟨a.g, fun x u q => ?_, fun x u hm q => ?_, fun x q => ?_, a.new⟩
  · rw [upd_ne (ne_of_none q hg)]; exact a.gh x u q
  · have z : x ≠ p := fun z => by
      subst z
      rcases h0 with h0 | h0
      · rw [h0] at q; cases q
      · exact hm h0
    rw [upd_ne z]; exact a.keep x u hm q
  · by_cases z : x = p
    · subst z; rw [upd_same] at q; cases q
    · rw [upd_ne z] at q; exact a.there x q
/-- .. stands still from now on -/
theorem Grow.freeze (a : Grow M G H G1 H1) (h0 : H p = none) (hg : G1 p = none) (ht : H1 p = some o) : Grow M G H (upd G1 p o) H1 := by
  refine ⟨fun x u q => ?_, fun x u q => ?_, a.keep, a.there, fun x q1 q2 => ?_⟩
  · rw [upd_ne (ne_of_none (a.g x u q) hg)]; exact a.g x u q
  · by_cases z : x = p
    · subst z; rw [upd_same] at q; cases q; exact ht
    · rw [upd_ne z] at q; exact a.gh x u q
  · have z : x ≠ p := fun z => q1 (by rw [z]; exact h0)
    rw [upd_ne z]; exact a.new x q1 q2
theorem Ex.frz (hg : G p = none) : Ex G (upd G p o) := fun x u q => by rw [upd_ne (ne_of_none q hg)]; exact q
end

/-! ### what expressions are worth -/
/-- te gives some data of S -/
def EvS (te : TE) (σ : VSt) (G : Hp) (S : PyData → Prop) : Prop := ∀ G1 H1, Ex G G1 → Ex G1 H1 → ∀ Q : VK, (∀ v d G2 H2, S d → Grow M0 G1 H1 G2 H2 → DD G2 v d → Q v H2) → te σ H1 Q
def EvD (te : TE) (σ : VSt) (G : Hp) (d : PyData) : Prop := EvS te σ G (fun x => x = d)
def EvB (tt : TT) (σ : VSt) (G : Hp) (b : Bool) : Prop := ∀ G1 H1, Ex G G1 → Ex G1 H1 → ∀ Q : Bool → Hp → Prop, (∀ G2 H2, Grow M0 G1 H1 G2 H2 → Q b H2) → tt σ H1 Q
def EvA (ta : TA) (σ : VSt) (G : Hp) (ds : List PyData) : Prop := ∀ G1 H1, Ex G G1 → Ex G1 H1 → ∀ Q : List V → Hp → Prop, (∀ vs G2 H2, Grow M0 G1 H1 G2 H2 → DDs G2 vs ds → Q vs H2) → ta σ H1 Q
def EvO (to : TO) (σ : VSt) (G : Hp) (o : Option Int) : Prop := ∀ G1 H1, Ex G G1 → Ex G1 H1 → ∀ Q : Option Int → Hp → Prop, (∀ G2 H2, Grow M0 G1 H1 G2 H2 → Q o H2) → to σ H1 Q
/-- te gives the very value v -/
def EvV (te : TE) (σ : VSt) (G : Hp) (v : V) : Prop := ∀ G1 H1, Ex G G1 → Ex G1 H1 → ∀ Q : VK, (∀ G2 H2, Grow M0 G1 H1 G2 H2 → Q v H2) → te σ H1 Q
/-- an operation on two data -/
def RvD (r : R2) (d e z : PyData) : Prop := ∀ G1 H1, Ex G1 H1 → ∀ x y, DD G1 x d → DD G1 y e → ∀ Q : VK, (∀ v G2 H2, Grow M0 G1 H1 G2 H2 → DD G2 v z → Q v H2) → r x y H1 Q
def RcD (r : List V → Hp → VK → Prop) (ds : List PyData) (z : PyData) : Prop := ∀ G1 H1, Ex G1 H1 → ∀ xs, DDs G1 xs ds → ∀ Q : VK, (∀ v G2 H2, Grow M0 G1 H1 G2 H2 → DD G2 v z → Q v H2) → r xs H1 Q
/-- a method: the receiver, the arguments -/
def RmD (r : V → List V → Hp → VK → Prop) (o : PyData) (ds : List PyData) (z : PyData) : Prop := ∀ G1 H1, Ex G1 H1 → ∀ x xs, DD G1 x o → DDs G1 xs ds → ∀ Q : VK, (∀ v G2 H2, Grow M0 G1 H1 G2 H2 → DD G2 v z → Q v H2) → r x xs H1 Q
section
variable {σ : VSt} {G G' H : Hp} {ta tb tc te : TE} {t u : TT} {d e z : PyData} {r r' : R2} {K : PySem.W.Frag}
theorem EvD.go (h : EvD te σ G d) (e : Ex G H) {Q : VK} (k : ∀ v G2 H2, Grow M0 G H G2 H2 → DD G2 v d → Q v H2) : te σ H Q :=
  h G H (Ex.refl G) e Q fun v d' G2 H2 ed g hv => k v G2 H2 g (ed ▸ hv)
theorem EvD.go' (h : EvD te σ G d) (e1 : Ex G G') (e : Ex G' H) {Q : VK} (k : ∀ v G2 H2, Grow M0 G' H G2 H2 → DD G2 v d → Q v H2) : te σ H Q :=
  h G' H e1 e Q fun v d' G2 H2 ed g hv => k v G2 H2 g (ed ▸ hv)
theorem EvD.mk (h : ∀ G1 H1, Ex G G1 → Ex G1 H1 → ∀ Q : VK, (∀ v G2 H2, Grow M0 G1 H1 G2 H2 → DD G2 v d → Q v H2) → te σ H1 Q) : EvD te σ G d :=
  fun G1 H1 a b Q q => h G1 H1 a b Q fun v G2 H2 g hv => q v d G2 H2 rfl g hv
theorem EvS.mono {S : PyData → Prop} (e : Ex G G') (h : EvS te σ G S) : EvS te σ G' S := fun G1 H1 a => h G1 H1 (e.trans a)
theorem EvD.mono (e : Ex G G') (h : EvD te σ G d) : EvD te σ G' d := EvS.mono e h
theorem EvB.mono {b : Bool} (e : Ex G G') (h : EvB t σ G b) : EvB t σ G' b := fun G1 H1 a => h G1 H1 (e.trans a)
theorem EvV.mono {v : V} (e : Ex G G') (h : EvV te σ G v) : EvV te σ G' v := fun G1 H1 a => h G1 H1 (e.trans a)
theorem EvA.mono {ta : TA} {ds : List PyData} (e : Ex G G') (h : EvA ta σ G ds) : EvA ta σ G' ds := fun G1 H1 a => h G1 H1 (e.trans a)
theorem EvD.is {d' : PyData} (h : EvD te σ G d) (e : d = d') : EvD te σ G d' := e ▸ h
theorem EvB.is {b b' : Bool} (h : EvB t σ G b) (e : b = b') : EvB t σ G b' := e ▸ h
theorem d_var {i : Nat} {v : V} (h : σ[i]? = some (some v)) (hd : DD G v d) : EvD (tVar i) σ G d := .mk fun G1 H1 e1 e2 Q q => ⟨v, h, q v G1 H1 (Grow.refl e2) (hd.up e1)⟩
theorem v_var {i : Nat} {v : V} (h : σ[i]? = some (some v)) : EvV (tVar i) σ G v := fun G1 H1 e1 e2 Q q => ⟨v, h, q G1 H1 (Grow.refl e2)⟩
theorem v_c {v : V} : EvV (tC v) σ G v := fun G1 H1 _ e2 Q q => q G1 H1 (Grow.refl e2)
theorem d_v {v : V} (h : EvV te σ G v) (hd : DD G v d) : EvD te σ G d := .mk fun G1 H1 e1 e2 Q q => h G1 H1 e1 e2 Q fun G2 H2 g => q v G2 H2 g (hd.up (e1.trans g.g))
theorem d_int {i : Int} : EvD (tC (.int i)) σ G (.int i) := d_v v_c (.int i)
theorem d_str {x : Str} : EvD (tC (.str x)) σ G (.str x) := d_v v_c (.str x)
theorem d_bl {x : Bool} : EvD (tC (.bl x)) σ G (.bool x) := d_v v_c (.bl x)
theorem d_non : EvD (tC .non) σ G .none := d_v v_c .non
theorem v_d (h : EvD te σ G d) {v : V} (hv : ∀ G x, DD G x d → x = v) : EvV te σ G v := fun G1 H1 e1 e2 Q q => h.go' e1 e2 fun v' G2 H2 g hd => (hv G2 v' hd) ▸ q G2 H2 g
theorem v_int {i : Int} (h : EvD te σ G (.int i)) : EvV te σ G (.int i) := v_d h fun _ _ q => q.eqI
theorem v_bl {i : Bool} (h : EvD te σ G (.bool i)) : EvV te σ G (.bl i) := v_d h fun _ _ q => q.eqB
theorem v_str {i : Str} (h : EvD te σ G (.str i)) : EvV te σ G (.str i) := v_d h fun _ _ q => q.eqS
/-! ### new lists that may change -/
structure ML (G H : Hp) (l : Addr) (ds : List PyData) : Prop where
  g : G l = none
  at_ : ∃ xs, H l = some (.lst xs) ∧ DDs G xs ds
theorem ML.there {l : Addr} {ds : List PyData} (m : ML G H l ds) : H l ≠ none := by
  obtain ⟨_, xs, h, _⟩ := m
  rw [h]; exact fun z => nomatch z
theorem ML.grow {M : Addr → Prop} {G2 H2 : Hp} {l : Addr} {ds : List PyData} (m : ML G H l ds) (g : Grow M G H G2 H2) (hm : ¬ M l) : ML G2 H2 l ds := by
  obtain ⟨a, xs, h, d⟩ := id m
  exact ⟨g.new l m.there a, xs, g.keep l _ hm h, d.up g.g⟩
theorem ML.grow0 {G2 H2 : Hp} {l : Addr} {ds : List PyData} (m : ML G H l ds) (g : Grow M0 G H G2 H2) : ML G2 H2 l ds := m.grow g fun z => z
theorem ML.new {l : Addr} {xs : List V} {ds : List PyData} (e : Ex G H) (h : H l = none) (d : DDs G xs ds) : ML G (upd H l (.lst xs)) l ds := ⟨e.back h, xs, upd_same, d⟩
/-- the list is left as it is from here on -/
theorem ML.fin {M : Addr → Prop} {G2 H2 : Hp} {l : Addr} {ds : List PyData} (m : ML G2 H2 l ds) (g : Grow M G H G2 H2) (h : H l = none) : ∃ G3, Grow M G H G3 H2 ∧ Ex G2 G3 ∧ DD G3 (.ref l) (.list ds) ∧ ∀ q es, q ≠ l → ML G2 H2 q es → ML G3 H2 q es := by
  obtain ⟨a, xs, hx, d⟩ := m
  refine ⟨upd G2 l (.lst xs), g.freeze h a hx, Ex.frz a, .lst upd_same (d.up (Ex.frz a)), fun q es hq ⟨b, ys, hy, dy⟩ => ⟨?_, ys, hy, dy.up (Ex.frz a)⟩⟩
  rw [upd_ne hq]; exact b
/-- what is true of it for a moment -/
theorem ML.frz {l : Addr} {ds : List PyData} (m : ML G H l ds) (e : Ex G H) : ∃ G3, Ex G G3 ∧ Ex G3 H ∧ DD G3 (.ref l) (.list ds) := by
  obtain ⟨a, xs, hx, d⟩ := m
  refine ⟨upd G l (.lst xs), Ex.frz a, fun x u q => ?_, .lst upd_same (d.up (Ex.frz a))⟩
  by_cases z : x = l
  · subst z; rw [upd_same] at q; cases q; exact hx
  · rw [upd_ne z] at q; exact e x u q
theorem Grow.drop {G3 G5 H5 : Hp} (g : Grow M0 G3 H G5 H5) (e : Ex G G3) (e3 : Ex G3 H) : Grow M0 G H G H5 := ⟨Ex.refl G, fun x u q => g.gh x u (g.g x u (e x u q)), g.keep, g.there, fun _ _ q => q⟩
/-- the list changed -/
theorem ML.set {l : Addr} {xs : List V} {ds es : List PyData} (m : ML G H l ds) (e : Ex G H) (d : DDs G xs es) : Grow (fun a => a = l) G H G (upd H l (.lst xs)) ∧ ML G (upd H l (.lst xs)) l es :=
  ⟨(Grow.refl e).set (.inr rfl) m.g m.there, m.g, xs, upd_same, d⟩
/-- te gives a new list that may change, of the data ds -/
def EvM (te : TE) (σ : VSt) (G : Hp) (ds : List PyData) : Prop := ∀ G1 H1, Ex G G1 → Ex G1 H1 → ∀ Q : VK, (∀ p G2 H2, H1 p = none → Grow M0 G1 H1 G2 H2 → ML G2 H2 p ds → Q (.ref p) H2) → te σ H1 Q
theorem EvM.toD {ds : List PyData} (h : EvM te σ G ds) : EvD te σ G (.list ds) := .mk fun G1 H1 e1 e2 Q q => h G1 H1 e1 e2 Q fun p G2 H2 hp g m => by
  obtain ⟨G3, g3, _, hd, _⟩ := m.fin g hp
  exact q _ _ _ g3 hd
theorem d_op (ha : EvD ta σ G d) (hb : EvD tb σ G e) (hr : RvD r d e z) : EvD (tOp r ta tb) σ G z := .mk fun G1 H1 e1 e2 Q q =>
  ha.go' e1 e2 fun x G2 H2 g2 hx => hb.go' (e1.trans g2.g) g2.gh fun y G3 H3 g3 hy => hr G3 H3 g3.gh x y (hx.up g3.g) hy Q fun v G4 H4 g4 hv => q v G4 H4 ((g2.trans g3).trans g4) hv
theorem d_val {x y : V} (hx : ∀ G a, DD G a d → a = x) (hy : ∀ G a, DD G a e → a = y) {w : V} (hw : ∀ G, DD G w z) (h : ∀ H (Q : VK), Q w H → r x y H Q) : RvD r d e z := fun G1 H1 e1 a b ha hb Q q => by
  rw [hx _ _ ha, hy _ _ hb]
  exact h H1 Q (q w G1 H1 (Grow.refl e1) (hw G1))
theorem r_I0 {g : Int → Int → Int} {i j : Int} : RvD (rI0 fun i j => .int (g i j)) (.int i) (.int j) (.int (g i j)) :=
  d_val (fun _ _ q => q.eqI) (fun _ _ q => q.eqI) (fun _ => .int _) fun H Q q => ⟨i, j, rfl, rfl, q⟩
theorem r_B0 {g : Int → Int → Bool} {i j : Int} : RvD (rI0 fun i j => .bl (g i j)) (.int i) (.int j) (.bool (g i j)) :=
  d_val (fun _ _ q => q.eqI) (fun _ _ q => q.eqI) (fun _ => .bl _) fun H Q q => ⟨i, j, rfl, rfl, q⟩
theorem r_I {C : Int → Int → Prop} {g : Int → Int → Int} {i j : Int} (hc : C i j) : RvD (rI C fun i j => .int (g i j)) (.int i) (.int j) (.int (g i j)) :=
  d_val (fun _ _ q => q.eqI) (fun _ _ q => q.eqI) (fun _ => .int _) fun H Q q => ⟨i, j, rfl, rfl, hc, q⟩
theorem r_eq (h1 : SeqAt.shaped d = true) (h2 : SeqAt.shaped e = true) : RvD (rEqD K) d e (.bool (PyData.eqv d e)) := fun G1 H1 e1 a b ha hb Q q =>
  ⟨d, e, DD.dp e1 d a ha, DD.dp e1 e b hb, h1, h2, q _ G1 H1 (Grow.refl e1) (.bl _)⟩
theorem r_ne (h1 : SeqAt.shaped d = true) (h2 : SeqAt.shaped e = true) : RvD (rNeD K) d e (.bool (!PyData.eqv d e)) := fun G1 H1 e1 a b ha hb Q q =>
  ⟨d, e, DD.dp e1 d a ha, DD.dp e1 e b hb, h1, h2, q _ G1 H1 (Grow.refl e1) (.bl _)⟩
theorem r_in {ds : List PyData} (h1 : SeqAt.shaped d = true) (h2 : SeqAt.shaped (.list ds) = true) : RvD (rInD K) d (.list ds) (.bool (ds.any fun z => PyData.eqv z d)) := fun G1 H1 e1 a b ha hb Q q =>
  ⟨d, ds, DD.dp e1 d a ha, DD.dp e1 _ b hb, h1, h2, q _ G1 H1 (Grow.refl e1) (.bl _)⟩
theorem r_notin {ds : List PyData} (h1 : SeqAt.shaped d = true) (h2 : SeqAt.shaped (.list ds) = true) : RvD (rNotInD K) d (.list ds) (.bool (!ds.any fun z => PyData.eqv z d)) := fun G1 H1 e1 a b ha hb Q q =>
  ⟨d, ds, DD.dp e1 d a ha, DD.dp e1 _ b hb, h1, h2, q _ G1 H1 (Grow.refl e1) (.bl _)⟩
/-- an item by its place -/
theorem r_ixL {ds : List PyData} {i : Int} (h : atI ds i = some d) : RvD (rIx K) (.list ds) (.int i) d := fun G1 H1 e1 a b ha hb Q q => by
  obtain ⟨p, xs, rfl, hp, hx⟩ := ha.eqL
  rw [hb.eqI]
  obtain ⟨j, h1, h2, h3, h4, h5⟩ := atI_get h
  obtain ⟨v, h6, h7⟩ := hx.get h2
  refine .inl ⟨p, xs, i, v, rfl, rfl, .inl (.inl (e1 _ _ hp)), ?_, q v G1 H1 (Grow.refl e1) h7⟩
  unfold atI at h ⊢
  rw [hx.length]
  obtain ⟨j', e', hj'⟩ := Option.bind_eq_some_iff.mp h
  rw [e']
  obtain ⟨v', h6', h7'⟩ := hx.get hj'
  have : j' = j := by
    have z1 := (ixN_seq e').1
    rw [h1] at z1
    exact (Option.some.inj z1).symm
  subst this
  exact h6
theorem r_ixT {ds : List PyData} {i : Int} (h : atI ds i = some d) : RvD (rIx K) (.tuple ds) (.int i) d := fun G1 H1 e1 a b ha hb Q q => by
  obtain ⟨p, xs, rfl, hp, hx⟩ := ha.eqT
  rw [hb.eqI]
  obtain ⟨j, h1, h2, h3, h4, h5⟩ := atI_get h
  obtain ⟨v, h6, h7⟩ := hx.get h2
  refine .inr (.inl ⟨p, xs, i, v, rfl, rfl,   .inl (up_rd hp e1), ?_, q v G1 H1 (Grow.refl e1) h7⟩)
  unfold atI at h ⊢
  rw [hx.length]
  obtain ⟨j', e', hj'⟩ := Option.bind_eq_some_iff.mp h
  rw [e']
  obtain ⟨v', h6', h7'⟩ := hx.get hj'
  have : j' = j := by
    have z1 := (ixN_seq e').1
    rw [h1] at z1
    exact (Option.some.inj z1).symm
  subst this
  exact h6
theorem r_ixS {x : Str} {i : Int} {c : Nat} (hl : x.length ≤ 100000) (h : atI x.cps.toList i = some c) : RvD (rIx K) (.str x) (.int i) (.str ⟨#[c]⟩) := fun G1 H1 e1 a b ha hb Q q => by
  rw [ha.eqS, hb.eqI]
  exact .inr (.inr ⟨x, i, c, rfl, rfl, Evl.sz_of hl, h, q _ G1 H1 (Grow.refl e1) (.str _)⟩)
theorem r_catT {ds es : List PyData} (h0 : ds ≠ []) (h1 : es ≠ []) (hl : ds.length + es.length ≤ 100000) : RvD (rCatT K) (.tuple ds) (.tuple es) (.tuple (ds ++ es)) := fun G1 H1 e1 a b ha hb Q q => by
  obtain ⟨p, xs, rfl, hp, hx⟩ := ha.eqT
  obtain ⟨p', ys, rfl, hp', hy⟩ := hb.eqT
  have l1 := hx.length
  have l2 := hy.length
  have n0 : xs ≠ [] := fun z => h0 (by rw [z] at l1; exact List.eq_nil_of_length_eq_zero l1.symm)
  have n1 : ys ≠ [] := fun z => h1 (by rw [z] at l2; exact List.eq_nil_of_length_eq_zero l2.symm)
  refine ⟨p, p', xs, ys, rfl, rfl, .inl (up_rd hp e1), .inl (up_rd hp' e1), n0, Evl.sz_of (by omega), ?_⟩
  refine ⟨fun z => absurd z n1, fun _ p2 hp2 => ?_⟩
  refine q _ _ _ (Grow.laid e1 hp2) (.tup (.inl upd_same) ?_)
  have g : Ex G1 (upd G1 p2 (.tup (xs ++ ys))) := Ex.frz (e1.back hp2)
  exact DDs.append (hx.up g) (hy.up g)
/-- a new object, its items known -/
theorem new_lst {M : Addr → Prop} {H1 : Hp} {p : Addr} {xs : List V} {ds : List PyData} (e : Ex G H1) (hp : H1 p = none) (hx : DDs G xs ds) : Grow M G H1 (upd G p (.lst xs)) (upd H1 p (.lst xs)) ∧ DD (upd G p (.lst xs)) (.ref p) (.list ds) :=
  ⟨Grow.laid e hp, .lst upd_same (hx.up (Ex.frz (e.back hp)))⟩
theorem new_tup {M : Addr → Prop} {H1 : Hp} {p : Addr} {xs : List V} {ds : List PyData} (e : Ex G H1) (hp : H1 p = none) (hx : DDs G xs ds) : Grow M G H1 (upd G p (.tup xs)) (upd H1 p (.tup xs)) ∧ DD (upd G p (.tup xs)) (.ref p) (.tuple ds) :=
  ⟨Grow.laid e hp, .tup (.inl upd_same) (hx.up (Ex.frz (e.back hp)))⟩
theorem m_catL {ds es : List PyData} (ha : EvD ta σ G (.list ds)) (hb : EvD tb σ G (.list es)) (hl : ds.length + es.length ≤ 100000) : EvM (tOp rCat ta tb) σ G (ds ++ es) := fun G1 H1 e1 e2 Q q =>
  ha.go' e1 e2 fun x G2 H2 g2 hx => hb.go' (e1.trans g2.g) g2.gh fun y G3 H3 g3 hy => by
    obtain ⟨p, xs, rfl, hp, hx⟩ := (hx.up g3.g).eqL
    obtain ⟨p', ys, rfl, hp', hy⟩ := hy.eqL
    have l1 := hx.length
    have l2 := hy.length
    exact ⟨p, p', xs, ys, rfl, rfl, g3.gh _ _ hp, g3.gh _ _ hp', Evl.sz_of (by omega), fun p2 hp2 => q p2 _ _ ((g2.trans g3).there p2 hp2) ((g2.trans g3).trans (Grow.mnew g3.gh hp2)) (ML.new g3.gh hp2 (hx.append hy))⟩
theorem r_catL {ds es : List PyData} (hl : ds.length + es.length ≤ 100000) : RvD rCat (.list ds) (.list es) (.list (ds ++ es)) := fun G1 H1 e1 a b ha hb Q q => by
  obtain ⟨p, xs, rfl, hp, hx⟩ := ha.eqL
  obtain ⟨p', ys, rfl, hp', hy⟩ := hb.eqL
  have l1 := hx.length
  have l2 := hy.length
  refine ⟨p, p', xs, ys, rfl, rfl, e1 _ _ hp, e1 _ _ hp', Evl.sz_of (by omega), fun p2 hp2 => ?_⟩
  obtain ⟨g, hd⟩ := new_lst e1 hp2 (hx.append hy)
  exact q _ _ _ g hd
theorem r_catS {x y : Str} (hl : x.length + y.length ≤ 100000) : RvD (fun x y H Q => ∃ i j, x = V.str i ∧ y = V.str j ∧ i.length + j.length ≤ sizeLine ∧ Q (V.str (i ++ j)) H) (.str x) (.str y) (.str (x ++ y)) :=
  d_val (fun _ _ q => q.eqS) (fun _ _ q => q.eqS) (fun _ => .str _) fun H Q q => ⟨x, y, rfl, rfl, Evl.sz_of hl, q⟩
/-- x in a written tuple of flat things -/
theorem r_inT {ds : List PyData} {x : V} {xs : List V} {b : Bool} (h1 : ∀ G a, DD G a d → a = x) (h2 : ∀ G as, DDs G as ds → as = xs) (f1 : flatV x = true) (f2 : xs.all flatV = true) (hb : inV x xs = b) : RvD (rIn K false) d (.tuple ds) (.bool b) := fun G1 H1 e1 a b' ha hb' Q q => by
  obtain ⟨p, ys, rfl, hp, hy⟩ := hb'.eqT
  have z := h2 _ _ hy
  subst z
  rw [h1 _ _ ha]
  refine ⟨p, ys, rfl, .inr (.inl (up_rd hp e1)), f1, f2, ?_⟩
  show Q (.bl (inV x ys)) H1
  rw [hb]
  exact q _ G1 H1 (Grow.refl e1) (.bl _)
/-! ### tests -/
theorem b_test {b : Bool} (h : EvD te σ G (.bool b)) : EvB (tTest te) σ G b := fun G1 H1 e1 e2 Q q => v_bl h G1 H1 e1 e2 _ fun G2 H2 g => ⟨b, rfl, q G2 H2 g⟩
theorem b_B {b : Bool} (h : EvD te σ G (.bool b)) : EvB (tB te) σ G b := fun G1 H1 e1 e2 Q q => v_bl h G1 H1 e1 e2 _ fun G2 H2 g => ⟨b, rfl, q G2 H2 g⟩
theorem b_not {b : Bool} (h : EvB t σ G b) : EvB (tNot t) σ G (!b) := fun G1 H1 e1 e2 Q q => h G1 H1 e1 e2 _ fun G2 H2 g => q G2 H2 g
theorem b_and {a b : Bool} (h1 : EvB t σ G a) (h2 : a = true → EvB u σ G b) : EvB (tAnd t u) σ G (a && b) := fun G1 H1 e1 e2 Q q => h1 G1 H1 e1 e2 _ fun G2 H2 g => by
  cases a with
  | true => exact h2 rfl G2 H2 (e1.trans g.g) g.gh Q fun G3 H3 g3 => q G3 H3 (g.trans g3)
  | false => exact q G2 H2 g
theorem b_or {a b : Bool} (h1 : EvB t σ G a) (h2 : a = false → EvB u σ G b) : EvB (tOr t u) σ G (a || b) := fun G1 H1 e1 e2 Q q => h1 G1 H1 e1 e2 _ fun G2 H2 g => by
  cases a with
  | true => exact q G2 H2 g
  | false => exact h2 rfl G2 H2 (e1.trans g.g) g.gh Q fun G3 H3 g3 => q G3 H3 (g.trans g3)
theorem d_andV {a b : Bool} (h1 : EvD ta σ G (.bool a)) (h2 : a = true → EvD tb σ G (.bool b)) : EvD (tAndV ta tb) σ G (.bool (a && b)) := .mk fun G1 H1 e1 e2 Q q => v_bl h1 G1 H1 e1 e2 _ fun G2 H2 g => ⟨a, rfl, by
  cases a with
  | true => exact (h2 rfl).go' (e1.trans g.g) g.gh fun v G3 H3 g3 hv => q v G3 H3 (g.trans g3) hv
  | false => exact q _ G2 H2 g (.bl _)⟩
theorem d_orV {a b : Bool} (h1 : EvD ta σ G (.bool a)) (h2 : a = false → EvD tb σ G (.bool b)) : EvD (tOrV ta tb) σ G (.bool (a || b)) := .mk fun G1 H1 e1 e2 Q q => v_bl h1 G1 H1 e1 e2 _ fun G2 H2 g => ⟨a, rfl, by
  cases a with
  | true => exact q _ G2 H2 g (.bl _)
  | false => exact (h2 rfl).go' (e1.trans g.g) g.gh fun v G3 H3 g3 hv => q v G3 H3 (g.trans g3) hv⟩
theorem d_notV {a : Bool} (h1 : EvD ta σ G (.bool a)) : EvD (tNotV ta) σ G (.bool (!a)) := .mk fun G1 H1 e1 e2 Q q => v_bl h1 G1 H1 e1 e2 _ fun G2 H2 g => ⟨a, rfl, q _ G2 H2 g (.bl _)⟩
theorem d_if {b : Bool} {d1 d2 : PyData} (h : EvB t σ G b) (h1 : b = true → EvD ta σ G d1) (h2 : b = false → EvD tb σ G d2) : EvD (tIf t ta tb) σ G (if b = true then d1 else d2) := .mk fun G1 H1 e1 e2 Q q => h G1 H1 e1 e2 _ fun G2 H2 g => by
  cases b with
  | true => exact (h1 rfl).go' (e1.trans g.g) g.gh fun v G3 H3 g3 hv => q v G3 H3 (g.trans g3) hv
  | false => exact (h2 rfl).go' (e1.trans g.g) g.gh fun v G3 H3 g3 hv => q v G3 H3 (g.trans g3) hv
theorem s_if {b : Bool} {S : PyData → Prop} (h : EvB t σ G b) (h1 : b = true → EvS ta σ G S) (h2 : b = false → EvS tb σ G S) : EvS (tIf t ta tb) σ G S := fun G1 H1 e1 e2 Q q => h G1 H1 e1 e2 _ fun G2 H2 g => by
  cases b with
  | true => exact h1 rfl G2 H2 (e1.trans g.g) g.gh Q fun v d G3 H3 s g3 hv => q v d G3 H3 s (g.trans g3) hv
  | false => exact h2 rfl G2 H2 (e1.trans g.g) g.gh Q fun v d G3 H3 s g3 hv => q v d G3 H3 s (g.trans g3) hv
/-! ### arguments, displays, calls -/
theorem a_nil : EvA tNil σ G [] := fun G1 H1 _ e2 Q q => q [] G1 H1 (Grow.refl e2) .nil
theorem a_cons {tr : TA} {ds : List PyData} (h : EvD ta σ G d) (hr : EvA tr σ G ds) : EvA (tCons ta tr) σ G (d :: ds) := fun G1 H1 e1 e2 Q q =>
  h.go' e1 e2 fun v G2 H2 g hv => hr G2 H2 (e1.trans g.g) g.gh _ fun vs G3 H3 g3 hvs => q _ G3 H3 (g.trans g3) (.cons (hv.up g3.g) hvs)
theorem d_tup {tr : TA} {ds : List PyData} (h : EvA tr σ G ds) (hl : ds.length ≤ 100000 := by first | decide | simp) : EvD (tTup tr) σ G (.tuple ds) := .mk fun G1 H1 e1 e2 Q q =>
  h G1 H1 e1 e2 _ fun vs G2 H2 g hvs => ⟨Evl.sz_of (by rw [hvs.length]; exact hl), fun p hp => q _ _ _ (g.trans (new_tup g.gh hp hvs).1) (new_tup (M := M0) g.gh hp hvs).2⟩
theorem m_lst {tr : TA} {ds : List PyData} (h : EvA tr σ G ds) (hl : ds.length ≤ 100000 := by first | decide | simp) : EvM (tLst tr) σ G ds := fun G1 H1 e1 e2 Q q =>
  h G1 H1 e1 e2 _ fun vs G2 H2 g hvs => ⟨Evl.sz_of (by rw [hvs.length]; exact hl), fun p hp => q p _ _ (g.there p hp) (g.trans (Grow.mnew g.gh hp)) (ML.new g.gh hp hvs)⟩
theorem d_lst {tr : TA} {ds : List PyData} (h : EvA tr σ G ds) (hl : ds.length ≤ 100000 := by first | decide | simp) : EvD (tLst tr) σ G (.list ds) := (m_lst h hl).toD
theorem d_cb {r : List V → Hp → VK → Prop} {tr : TA} {ds : List PyData} (h : EvA tr σ G ds) (hr : RcD r ds z) : EvD (tCB r tr) σ G z := .mk fun G1 H1 e1 e2 Q q =>
  h G1 H1 e1 e2 _ fun vs G2 H2 g hvs => hr G2 H2 g.gh vs hvs Q fun v G3 H3 g3 hv => q v G3 H3 (g.trans g3) hv
/-- a method of a text -/
theorem d_m0 {r : V → List V → Hp → VK → Prop} {x : Str} (h : EvD te σ G (.str x)) (hr : RmD r (.str x) [] z) : EvD (tM0 r te) σ G z := .mk fun G1 H1 e1 e2 Q q =>
  h.go' e1 e2 fun v G2 H2 g hv => by
    have e := hv.eqS
    subst e
    exact ⟨⟨x, rfl⟩, hr G2 H2 g.gh _ [] hv .nil Q fun v G3 H3 g3 hv => q v G3 H3 (g.trans g3) hv⟩
theorem d_m1 {r : V → List V → Hp → VK → Prop} {x : Str} (h : EvD te σ G (.str x)) (ha : EvD ta σ G d) (hr : RmD r (.str x) [d] z) : EvD (tM1 r te ta) σ G z := .mk fun G1 H1 e1 e2 Q q =>
  h.go' e1 e2 fun v G2 H2 g hv => by
    have e := hv.eqS
    subst e
    exact ⟨⟨x, rfl⟩, ha.go' (e1.trans g.g) g.gh fun y G3 H3 g3 hy => hr G3 H3 g3.gh _ [y] (.str _) (.one hy) Q fun v G4 H4 g4 hv => q v G4 H4 ((g.trans g3).trans g4) hv⟩
/-- a method of a list -/
theorem d_bmL {r : V → List V → Hp → VK → Prop} {tr : TA} {os ds : List PyData} (h : EvD te σ G (.list os)) (ha : EvA tr σ G ds) (hr : RmD r (.list os) ds z) : EvD (tBM K "list" r te tr) σ G z := .mk fun G1 H1 e1 e2 Q q =>
  h.go' e1 e2 fun v G2 H2 g hv => by
    obtain ⟨a, xs, rfl, hp, hx⟩ := hv.eqL
    exact ⟨.inl ⟨rfl, xs, .inl (.inl (g.gh _ _ hp))⟩, ha G2 H2 (e1.trans g.g) g.gh _ fun vs G3 H3 g3 hvs => hr G3 H3 g3.gh _ _ (hv.up g3.g) hvs Q fun v G4 H4 g4 hv => q v G4 H4 ((g.trans g3).trans g4) hv⟩
/-- slices -/
theorem o_none : EvO tNoPart σ G none := fun G1 H1 _ e2 Q q => q G1 H1 (Grow.refl e2)
theorem o_some {i : Int} (h : EvD te σ G (.int i)) : EvO (tPart te) σ G (some i) := fun G1 H1 e1 e2 Q q => v_int h G1 H1 e1 e2 _ fun G2 H2 g => ⟨i, rfl, q G2 H2 g⟩
def cutD (ds : List PyData) (lo hi : Option Int) : List PyData := (ds.drop (HT.sIx ds.length 0 lo)).take (HT.sIx ds.length ds.length hi - HT.sIx ds.length 0 lo)
theorem m_slL {tl th : TO} {ds : List PyData} {lo hi : Option Int} (h : EvD te σ G (.list ds)) (h1 : EvO tl σ G lo) (h2 : EvO th σ G hi) : EvM (tSl (rSlL K) te tl th) σ G (cutD ds lo hi) := fun G1 H1 e1 e2 Q q =>
  h.go' e1 e2 fun v G2 H2 g hv => h1 G2 H2 (e1.trans g.g) g.gh _ fun G3 H3 g3 => h2 G3 H3 ((e1.trans g.g).trans g3.g) g3.gh _ fun G4 H4 g4 => by
    obtain ⟨a, xs, rfl, hp, hx⟩ := hv.eqL
    refine ⟨a, xs, rfl, .inl (.inl (g4.gh _ _ (g4.g _ _ (g3.g _ _ hp)))), fun p hp2 => ?_⟩
    have hx4 : DDs G4 (cutV xs lo hi) (cutD ds lo hi) := by
      have z := (hx.up (g3.g.trans g4.g))
      unfold cutV cutD
      rw [hx.length]
      exact (z.drop _).take _
    exact q p _ _ (((g.trans g3).trans g4).there p hp2) (((g.trans g3).trans g4).trans (Grow.mnew g4.gh hp2)) (ML.new g4.gh hp2 hx4)
/-! ### functions whose answer hangs on data alone -/
/-- the promise: from data ds, an answer of R ds -/
def spR (R : List PyData → (PyData → Prop) → Prop) : Sp := fun vs H Q _ => ∃ G ds S, R ds S ∧ Ex G H ∧ DDs G vs ds ∧ ∀ v d G2 H2, S d → Grow M0 G H G2 H2 → DD G2 v d → Q v H2
theorem s_call {R : List PyData → (PyData → Prop) → Prop} {E : XK} {tr : TA} {ds : List PyData} {S : PyData → Prop} (h : EvA tr σ G ds) (hR : R ds S) : EvS (tCall (spR R) [] E tr) σ G S := fun G1 H1 e1 e2 Q q =>
  h G1 H1 e1 e2 _ fun vs G2 H2 g hvs => by
    rw [List.append_nil]
    exact ⟨G2, ds, S, hR, g.gh, hvs, fun v d G3 H3 hs g3 hv => q v d G3 H3 hs (g.trans g3) hv⟩
theorem d_call {R : List PyData → (PyData → Prop) → Prop} {E : XK} {tr : TA} {ds : List PyData} (h : EvA tr σ G ds) (hR : R ds (fun x => x = z)) : EvD (tCall (spR R) [] E tr) σ G z := s_call h hR
theorem s_weak {S S' : PyData → Prop} (h : EvS te σ G S) (w : ∀ d, S d → S' d) : EvS te σ G S' := fun G1 H1 e1 e2 Q q => h G1 H1 e1 e2 Q fun v d G2 H2 s g hv => q v d G2 H2 (w d s) g hv
end

/-! ### targets -/
section
variable {σ : VSt} {G H : Hp} {K : PySem.W.Frag} {Q : VSt → Hp → Prop}
theorem g_tup2 {x : V} {d1 d2 : PyData} {i j : Nat} (h : DD G x (.tuple [d1, d2])) (e : Ex G H) (k : ∀ v1 v2, DD G v1 d1 → DD G v2 d2 → Q ((σ.set i (some v1)).set j (some v2)) H) : gTup K 2 (gCons (gName i) (gCons (gName j) gNil)) x σ H Q := by
  obtain ⟨a, xs, rfl, hp, hx⟩ := h.eqT
  obtain ⟨v1, r1, rfl, h1, hx⟩ := hx.inv
  obtain ⟨v2, r2, rfl, h2, hx⟩ := hx.inv
  obtain rfl := hx.inv0
  exact ⟨a, _, rfl, .inl (up_rd hp e), rfl, _, _, rfl, _, _, rfl, rfl, k _ _ h1 h2⟩
theorem g_tup3 {x : V} {d1 d2 d3 : PyData} {i j l : Nat} (h : DD G x (.tuple [d1, d2, d3])) (e : Ex G H) (k : ∀ v1 v2 v3, DD G v1 d1 → DD G v2 d2 → DD G v3 d3 → Q (((σ.set i (some v1)).set j (some v2)).set l (some v3)) H) :
    gTup K 3 (gCons (gName i) (gCons (gName j) (gCons (gName l) gNil))) x σ H Q := by
  obtain ⟨a, xs, rfl, hp, hx⟩ := h.eqT
  obtain ⟨v1, r1, rfl, h1, hx⟩ := hx.inv
  obtain ⟨v2, r2, rfl, h2, hx⟩ := hx.inv
  obtain ⟨v3, r3, rfl, h3, hx⟩ := hx.inv
  obtain rfl := hx.inv0
  exact ⟨a, _, rfl, .inl (up_rd hp e), rfl, _, _, rfl, _, _, rfl, _, _, rfl, rfl, k _ _ _ h1 h2 h3⟩
end

/-! ### comprehensions -/
section
variable {σ : VSt} {G G' H : Hp} {te tl : TE} {tt : TT} {K : PySem.W.Frag} {g : TG} {vs : List Nat}
/-- what stands at the new list's place -/
structure Cw (G H : Hp) (D : Addr) (H0 : Hp) (ds : List PyData) (G2 H2 : Hp) : Prop where
  gr : Grow M0 G H G2 H2
  g0 : G2 D = none
  hD : H D = none
  at_ : ∃ xs, H2 D = some (.lst xs) ∧ DDs G2 xs ds
theorem Cw.start {D : Addr} (e : Ex G H) (h : H D = none) : Cw G H D H [] G (upd H D (.lst [])) := ⟨Grow.mnew e h, e.back h, h, [], upd_same, .nil⟩
theorem Cw.turn {D : Addr} {H0 G2 H2 : Hp} {ds : List PyData} {b : Bool} {f : PyData} {σ2 : VSt} (c : Cw G H D H0 ds G2 H2) (hl : ds.length < 100000) (ht : EvB tt σ2 G2 b) (he : b = true → EvD te σ2 G2 f) {Nx : Hp → Prop}
    (k : ∀ G3 H3, Cw G H D H0 (if b = true then ds ++ [f] else ds) G3 H3 → Nx H3) :
    tt σ2 H2 fun b H3 => if b = true then te σ2 H3 fun y H4 => ∃ acc, H4 D = some (.lst acc) ∧ acc.length < sizeLine ∧ Nx (upd H4 D (.lst (acc ++ [y]))) else Nx H3 := by
  obtain ⟨gr, g0, hD, xs, hx, hd⟩ := c
  refine ht G2 H2 (Ex.refl G2) gr.gh _ fun G3 H3 g3 => ?_
  have hn : H2 D ≠ none := by rw [hx]; exact fun z => nomatch z
  have g03 : G3 D = none := g3.new D hn g0
  have hx3 : H3 D = some (.lst xs) := g3.ex _ _ hx
  cases b with
  | true =>
    show te σ2 H3 _
    refine (he rfl).go' g3.g g3.gh fun y G4 H4 g4 hy => ?_
    have hx4 : H4 D = some (.lst xs) := g4.ex _ _ hx3
    have g04 : G4 D = none := g4.new D (by rw [hx3]; exact fun z => nomatch z) g03
    refine ⟨xs, hx4, Evl.sz_lt (by rw [hd.length]; exact hl), k G4 _ ⟨(gr.trans (g3.trans g4)).set (.inl hD) g04 (by rw [hx4]; exact fun z => nomatch z), g04, hD, _, upd_same, (hd.up (g3.g.trans g4.g)).append (.one hy)⟩⟩
  | false =>
    show Nx H3
    exact k G3 H3 ⟨gr.trans g3, g03, hD, xs, hx3, hd.up g3.g⟩
theorem Cw.ml {D : Addr} {H0 G2 H2 : Hp} {ds : List PyData} (c : Cw G H D H0 ds G2 H2) : ML G2 H2 D ds := ⟨c.g0, c.at_⟩
theorem filter_step {α β : Type} (xs : List α) (p : α → Bool) (f : α → β) (i : Nat) (x : α) (h : xs[i]? = some x) :
    (((xs.take (i + 1)).filter p).map f) = if p x = true then ((xs.take i).filter p).map f ++ [f x] else ((xs.take i).filter p).map f := by
  rw [List.take_add_one, h, List.filter_append, List.map_append]
  show _ ++ ([x].filter p).map f = _
  by_cases hp : p x = true
  · rw [if_pos hp, List.filter_cons, if_pos hp]; rfl
  · rw [if_neg hp, List.filter_cons, if_neg hp]; simp
theorem filter_len {α β : Type} (xs : List α) (p : α → Bool) (f : α → β) : ((xs.filter p).map f).length ≤ xs.length := by
  rw [List.length_map]; exact List.length_filter_le _ _
/-- [f x for x in xs if p x], xs a list -/
theorem m_lcL {α : Type} {enc : α → PyData} {xs : List α} (p : α → Bool) (f : α → PyData) (h : EvD tl σ G (.list (xs.map enc))) (hl : xs.length ≤ 50000)
    (hg : ∀ (x : α) (v : V) (G1 H1 : Hp), x ∈ xs → Ex G G1 → Ex G1 H1 → DD G1 v (enc x) → ∀ Q : VSt → Hp → Prop, (∀ σ2, wipe σ2 vs = wipe σ vs → EvB tt σ2 G1 (p x) → (p x = true → EvD te σ2 G1 (f x)) → Q σ2 H1) → g v (wipe σ vs) H1 Q) :
    EvM (tLc (iList K tl) g tt te vs) σ G ((xs.filter p).map f) := fun G1 H1 e1 e2 Q q =>
  h.go' e1 e2 fun v G2 H2 g2 hv => by
    obtain ⟨a, ys, rfl, hp, hy⟩ := hv.eqL
    refine ⟨a, rfl, ⟨ys, .inl (.inl (g2.gh _ _ hp))⟩, fun D hD => ?_⟩
    have hlen : ys.length = xs.length := by rw [hy.length, List.length_map]
    refine lc_list (K := K) (a := a) (xs := ys) (fun i H' => ∃ G', Cw G2 H2 D H2 (((xs.take i).filter p).map f) G' H') ⟨G2, Cw.start g2.gh hD⟩ (fun i H' _ ⟨G', c⟩ => .inl (.inl (c.gr.gh _ _ (c.gr.g _ _ hp)))) (fun i x H' hi ⟨G', c⟩ => ?_) (fun H' ⟨G', c⟩ => ?_)
    · have hi' : i < xs.length := by rw [← hlen]; exact (List.getElem?_eq_some_iff.mp hi).1
      obtain ⟨d, hd, hxd⟩ := hy.at hi
      rw [List.getElem?_map, List.getElem?_eq_getElem hi'] at hd
      have ed : enc xs[i] = d := Option.some.inj hd
      subst ed
      refine hg xs[i] x G' H' (List.getElem_mem hi') ((e1.trans g2.g).trans c.gr.g) c.gr.gh (hxd.up c.gr.g) _ fun σ2 hw ht he => ⟨hw, ?_⟩
      exact c.turn (by have := filter_len (xs.take i) p f; rw [List.length_take] at this; omega) ht he fun G3 H3 c3 => ⟨G3, by rw [filter_step xs p f i xs[i] (List.getElem?_eq_getElem hi')]; exact c3⟩
    · have e : xs.take ys.length = xs := by rw [hlen, List.take_length]
      rw [e] at c
      exact q _ _ _ (g2.there _ hD) (g2.trans c.gr) c.ml
/-- .. xs a tuple -/
theorem m_lcT {α : Type} {enc : α → PyData} {xs : List α} (p : α → Bool) (f : α → PyData) (h : EvD tl σ G (.tuple (xs.map enc))) (hl : xs.length ≤ 50000)
    (hg : ∀ (x : α) (v : V) (G1 H1 : Hp), x ∈ xs → Ex G G1 → Ex G1 H1 → DD G1 v (enc x) → ∀ Q : VSt → Hp → Prop, (∀ σ2, wipe σ2 vs = wipe σ vs → EvB tt σ2 G1 (p x) → (p x = true → EvD te σ2 G1 (f x)) → Q σ2 H1) → g v (wipe σ vs) H1 Q) :
    EvM (tLc (iTup K tl) g tt te vs) σ G ((xs.filter p).map f) := fun G1 H1 e1 e2 Q q =>
  h.go' e1 e2 fun v G2 H2 g2 hv => by
    obtain ⟨a, ys, rfl, hp, hy⟩ := hv.eqT
    refine ⟨a, rfl, ⟨ys, .inl (up_rd hp g2.gh)⟩, fun D hD => ?_⟩
    have hlen : ys.length = xs.length := by rw [hy.length, List.length_map]
    refine lc_tup (K := K) (a := a) (xs := ys) (fun i H' => ∃ G', Cw G2 H2 D H2 (((xs.take i).filter p).map f) G' H') ⟨G2, Cw.start g2.gh hD⟩ (fun i H' _ ⟨G', c⟩ => .inl (up_rd hp (c.gr.g.trans c.gr.gh))) (fun i x H' hi ⟨G', c⟩ => ?_) (fun H' ⟨G', c⟩ => ?_)
    · have hi' : i < xs.length := by rw [← hlen]; exact (List.getElem?_eq_some_iff.mp hi).1
      obtain ⟨d, hd, hxd⟩ := hy.at hi
      rw [List.getElem?_map, List.getElem?_eq_getElem hi'] at hd
      have ed : enc xs[i] = d := Option.some.inj hd
      subst ed
      refine hg xs[i] x G' H' (List.getElem_mem hi') ((e1.trans g2.g).trans c.gr.g) c.gr.gh (hxd.up c.gr.g) _ fun σ2 hw ht he => ⟨hw, ?_⟩
      exact c.turn (by have := filter_len (xs.take i) p f; rw [List.length_take] at this; omega) ht he fun G3 H3 c3 => ⟨G3, by rw [filter_step xs p f i xs[i] (List.getElem?_eq_getElem hi')]; exact c3⟩
    · have e : xs.take ys.length = xs := by rw [hlen, List.take_length]
      rw [e] at c
      exact q _ _ _ (g2.there _ hD) (g2.trans c.gr) c.ml
/-- .. over range(n) -/
theorem m_lcR {ta : TA} {n : Nat} (p : Nat → Bool) (f : Nat → PyData) (h : EvA ta σ G [.int (n : Int)]) (hl : n ≤ 50000)
    (hg : ∀ (x : Nat) (G1 H1 : Hp), x < n → Ex G G1 → Ex G1 H1 → ∀ Q : VSt → Hp → Prop, (∀ σ2, wipe σ2 vs = wipe σ vs → EvB tt σ2 G1 (p x) → (p x = true → EvD te σ2 G1 (f x)) → Q σ2 H1) → g (.int (x : Int)) (wipe σ vs) H1 Q) :
    EvM (tLc (iRng1 ta) g tt te vs) σ G (((List.range n).filter p).map f) := fun G1 H1 e1 e2 Q q =>
  h G1 H1 e1 e2 _ fun vs' G2 H2 g2 hv => by
    obtain ⟨v, r, rfl, hv1, hr⟩ := hv.inv
    obtain rfl := hr.inv0
    obtain rfl := hv1.eqI
    refine ⟨(n : Int), rfl, by omega, by omega, fun D hD => ?_⟩
    have e0 : ((n : Int)).toNat = n := by omega
    rw [e0]
    refine lc_range (lo := 0) (n := n) (fun i H' => ∃ G', Cw G2 H2 D H2 ((((List.range n).take i).filter p).map f) G' H') ⟨G2, Cw.start g2.gh hD⟩ (fun i H' hi ⟨G', c⟩ => ?_) (fun H' ⟨G', c⟩ => ?_)
    · have ez : (0 : Int) + (i : Int) = (i : Int) := Int.zero_add _
      rw [ez]
      refine hg i G' H' hi ((e1.trans g2.g).trans c.gr.g) c.gr.gh _ fun σ2 hw ht he => ⟨hw, ?_⟩
      have hi2 : (List.range n)[i]? = some i := by rw [List.getElem?_range hi]
      exact c.turn (by have := filter_len ((List.range n).take i) p f; rw [List.length_take, List.length_range] at this; omega) ht he fun G3 H3 c3 => ⟨G3, by rw [filter_step (List.range n) p f i i hi2]; exact c3⟩
    · have e : (List.range n).take n = List.range n := by rw [List.take_of_length_le]; rw [List.length_range]; exact Nat.le_refl _
      rw [e] at c
      exact q _ _ _ (g2.there _ hD) (g2.trans c.gr) c.ml
end
end CL
set_option Elab.async false
set_option linter.all false
set_option maxRecDepth 100000
set_option maxHeartbeats 4000000
namespace CL
open PySem L2
/-! ### statements -/
section
variable {σ : VSt} {G H : Hp} {ta tb te tl : TE} {t : TT} {d : PyData} {K : PySem.W.Frag} {D : Ends} {tu tw tz : TS} {g : TG}
theorem q_asg {i : Nat} (h : EvD te σ G d) (e : Ex G H) (k : ∀ v G2 H2, Grow M0 G H G2 H2 → DD G2 v d → tz D (σ.set i (some v)) H2) : tSeq (tAsg te (gName i)) tz D σ H := h.go e k
theorem q_asgS {i : Nat} {S : PyData → Prop} (h : EvS te σ G S) (e : Ex G H) (k : ∀ v d G2 H2, S d → Grow M0 G H G2 H2 → DD G2 v d → tz D (σ.set i (some v)) H2) : tSeq (tAsg te (gName i)) tz D σ H := h G H (Ex.refl G) e _ k
theorem q_asgM {i : Nat} {ds : List PyData} (h : EvM te σ G ds) (e : Ex G H) (k : ∀ p G2 H2, H p = none → Grow M0 G H G2 H2 → ML G2 H2 p ds → tz D (σ.set i (some (.ref p))) H2) : tSeq (tAsg te (gName i)) tz D σ H := h G H (Ex.refl G) e _ k
theorem s_asg {i : Nat} (h : EvD te σ G d) (e : Ex G H) (k : ∀ v G2 H2, Grow M0 G H G2 H2 → DD G2 v d → D.nx (σ.set i (some v)) H2) : tAsg te (gName i) D σ H := h.go e k
theorem s_asgM {i : Nat} {ds : List PyData} (h : EvM te σ G ds) (e : Ex G H) (k : ∀ p G2 H2, H p = none → Grow M0 G H G2 H2 → ML G2 H2 p ds → D.nx (σ.set i (some (.ref p))) H2) : tAsg te (gName i) D σ H := h G H (Ex.refl G) e _ k
theorem s_ret (h : EvD te σ G d) (e : Ex G H) (k : ∀ v G2 H2, Grow M0 G H G2 H2 → DD G2 v d → D.rt v H2) : tRet te D σ H := h.go e k
theorem s_retS {S : PyData → Prop} (h : EvS te σ G S) (e : Ex G H) (k : ∀ v d G2 H2, S d → Grow M0 G H G2 H2 → DD G2 v d → D.rt v H2) : tRet te D σ H := h G H (Ex.refl G) e _ k
theorem s_drop (h : EvD te σ G d) (e : Ex G H) (k : ∀ G2 H2, Grow M0 G H G2 H2 → D.nx σ H2) : tDrop te D σ H := h.go e fun _ G2 H2 g _ => k G2 H2 g
theorem q_if {b : Bool} (h : EvB t σ G b) (e : Ex G H) (h1 : b = true → ∀ G2 H2, Grow M0 G H G2 H2 → tu { D with nx := tz D } σ H2) (h2 : b = false → ∀ G2 H2, Grow M0 G H G2 H2 → tw { D with nx := tz D } σ H2) : tSeq (tIfS t tu tw) tz D σ H :=
  h G H (Ex.refl G) e _ fun G2 H2 g => by
    cases b with
    | true => exact h1 rfl G2 H2 g
    | false => exact h2 rfl G2 H2 g
theorem s_ifS {b : Bool} (h : EvB t σ G b) (e : Ex G H) (h1 : b = true → ∀ G2 H2, Grow M0 G H G2 H2 → tu D σ H2) (h2 : b = false → ∀ G2 H2, Grow M0 G H G2 H2 → tw D σ H2) : tIfS t tu tw D σ H :=
  h G H (Ex.refl G) e _ fun G2 H2 g => by
    cases b with
    | true => exact h1 rfl G2 H2 g
    | false => exact h2 rfl G2 H2 g
theorem q_when {b : Bool} (h : EvB t σ G b) (e : Ex G H) (h1 : b = true → ∀ G2 H2, Grow M0 G H G2 H2 → tu { D with nx := tz D } σ H2) (h2 : b = false → ∀ G2 H2, Grow M0 G H G2 H2 → tz D σ H2) : tSeq (tIfS t tu tNext) tz D σ H := q_if h e h1 h2
theorem s_when {b : Bool} (h : EvB t σ G b) (e : Ex G H) (h1 : b = true → ∀ G2 H2, Grow M0 G H G2 H2 → tu D σ H2) (h2 : b = false → ∀ G2 H2, Grow M0 G H G2 H2 → D.nx σ H2) : tIfS t tu tNext D σ H := s_ifS h e h1 h2
/-- l.append(e), l a list that may change -/
theorem s_app {l : Addr} {ds : List PyData} (ho : EvV ta σ G (.ref l)) (m : ML G H l ds) (h : EvD te σ G d) (e : Ex G H) (hz : ds.length < 100000) (k : ∀ G2 H2, Grow (fun a => a = l) G H G2 H2 → ML G2 H2 l (ds ++ [d]) → D.nx σ H2) :
    tDrop (tBM K "list" rAppend ta (tCons te tNil)) D σ H := ho G H (Ex.refl G) e _ fun G1 H1 g1 => by
  obtain ⟨_, xs, h1, _⟩ := m.grow0 g1
  refine ⟨.inl ⟨rfl, xs, .inl (.inl h1)⟩, h.go' g1.g g1.gh fun v G2 H2 g2 hv => ?_⟩
  obtain ⟨g0, ys, h2, d2⟩ := m.grow0 (g1.trans g2)
  have m2 := m.grow0 (g1.trans g2)
  refine ⟨l, ys, v, rfl, rfl, h2, Evl.sz_lt (by rw [d2.length]; exact hz), ?_⟩
  obtain ⟨g3, m3⟩ := m2.set (xs := ys ++ [v]) g2.gh (d2.append (.one hv))
  exact k G2 _ ((g1.trans g2).of0.trans g3) m3
theorem q_app {l : Addr} {ds : List PyData} (ho : EvV ta σ G (.ref l)) (m : ML G H l ds) (h : EvD te σ G d) (e : Ex G H) (hz : ds.length < 100000) (k : ∀ G2 H2, Grow (fun a => a = l) G H G2 H2 → ML G2 H2 l (ds ++ [d]) → tz D σ H2) :
    tSeq (tDrop (tBM K "list" rAppend ta (tCons te tNil))) tz D σ H := s_app (D := { D with nx := tz D }) ho m h e hz k
/-- l.extend(e), e a new list -/
theorem s_ext {l : Addr} {ds es : List PyData} (ho : EvV ta σ G (.ref l)) (m : ML G H l ds) (h : EvD te σ G (.list es)) (e : Ex G H) (hz : ds.length + es.length < 100000) (k : ∀ G2 H2, Grow (fun a => a = l) G H G2 H2 → ML G2 H2 l (ds ++ es) → D.nx σ H2) :
    tDrop (tBM K "list" rExtend ta (tCons te tNil)) D σ H := ho G H (Ex.refl G) e _ fun G1 H1 g1 => by
  obtain ⟨_, xs, h1, _⟩ := m.grow0 g1
  refine ⟨.inl ⟨rfl, xs, .inl (.inl h1)⟩, h.go' g1.g g1.gh fun v G2 H2 g2 hv => ?_⟩
  obtain ⟨g0, ys, h2, d2⟩ := m.grow0 (g1.trans g2)
  have m2 := m.grow0 (g1.trans g2)
  obtain ⟨b, zs, rfl, hb, dz⟩ := hv.eqL
  refine ⟨l, b, ys, zs, rfl, rfl, h2, g2.gh _ _ hb, Evl.sz_of (by rw [d2.length, dz.length]; omega), ?_⟩
  obtain ⟨g3, m3⟩ := m2.set (xs := ys ++ zs) g2.gh (d2.append dz)
  exact k G2 _ ((g1.trans g2).of0.trans g3) m3
theorem q_ext {l : Addr} {ds es : List PyData} (ho : EvV ta σ G (.ref l)) (m : ML G H l ds) (h : EvD te σ G (.list es)) (e : Ex G H) (hz : ds.length + es.length < 100000) (k : ∀ G2 H2, Grow (fun a => a = l) G H G2 H2 → ML G2 H2 l (ds ++ es) → tz D σ H2) :
    tSeq (tDrop (tBM K "list" rExtend ta (tCons te tNil))) tz D σ H := s_ext (D := { D with nx := tz D }) ho m h e hz k
theorem Grow.priv {M : Addr → Prop} {l : Addr} {G0 H0 G1 H1 G2 H2 : Hp} (a : Grow M G0 H0 G1 H1) (b : Grow (fun x => x = l) G1 H1 G2 H2) (h : H0 l = none) : Grow M G0 H0 G2 H2 :=
  ⟨a.g.trans b.g, b.gh, fun x o hm q => b.keep x o (fun z => by rw [z, h] at q; cases q) (a.keep x o hm q), fun x q => a.there x (b.there x q), fun x q1 q2 => b.new x (fun z => q1 (a.there x z)) (a.new x q1 q2)⟩
theorem Grow.own {M : Addr → Prop} {l : Addr} {G0 H0 G1 H1 G2 H2 : Hp} (a : Grow M G0 H0 G1 H1) (b : Grow (fun x => x = l) G1 H1 G2 H2) (h : M l) : Grow M G0 H0 G2 H2 := a.trans (b.weak fun x z => z ▸ h)
/-! ### loops -/
/-- for .. in a list -/
theorem s_forL {α : Type} {enc : α → PyData} {xs : List α} (h : EvD tl σ G (.list (xs.map enc))) (e : Ex G H) (Pv : Nat → VSt → Hp → Hp → Prop) (h0 : ∀ G1 H1, Grow M0 G H G1 H1 → Pv 0 σ G1 H1)
    (hs : ∀ (i : Nat) (x : α) (v : V) σ' G' H', xs[i]? = some x → Ex G G' → Ex G' H' → DD G' v (enc x) → Pv i σ' G' H' →
      ∀ Nx : VSt → Hp → Prop, (∀ σ3 G3 H3, Ex G' G3 → Ex G3 H3 → Pv (i + 1) σ3 G3 H3 → Nx σ3 H3) → g v σ' H' fun σ2 H2 => tu { D with nx := Nx, ct := Nx, bk := D.nx } σ2 H2)
    (hd : ∀ σ' G' H', Ex G G' → Ex G' H' → Pv xs.length σ' G' H' → D.nx σ' H') : tFor (iList K tl) g tu D σ H := h.go e fun v G1 H1 g1 hv => by
  obtain ⟨a, ys, rfl, hp, hy⟩ := hv.eqL
  have hlen : ys.length = xs.length := by rw [hy.length, List.length_map]
  refine ⟨a, rfl, ⟨ys, .inl (.inl (g1.gh _ _ hp))⟩, for_list (K := K) (a := a) (xs := ys) (fun i σ' H' => ∃ G', Ex G1 G' ∧ Ex G' H' ∧ Pv i σ' G' H') ⟨G1, Ex.refl G1, g1.gh, h0 G1 H1 g1⟩
    (fun i σ' H' _ ⟨G', e1, e2, _⟩ => .inl (.inl (e2 _ _ (e1 _ _ hp)))) ?_ ?_⟩
  · rintro i x σ' H' hi ⟨G', e1, e2, p⟩
    have hi' : i < xs.length := by rw [← hlen]; exact (List.getElem?_eq_some_iff.mp hi).1
    obtain ⟨d, hd, hxd⟩ := hy.at hi
    rw [List.getElem?_map, List.getElem?_eq_getElem hi'] at hd
    have ed : enc xs[i] = d := Option.some.inj hd
    subst ed
    exact hs i xs[i] x σ' G' H' (List.getElem?_eq_getElem hi') (g1.g.trans e1) e2 (hxd.up e1) p _ fun σ3 G3 H3 a1 a2 a3 => ⟨G3, e1.trans a1, a2, a3⟩
  · rintro σ' H' ⟨G', e1, e2, p⟩
    rw [hlen] at p
    exact hd σ' G' H' (g1.g.trans e1) e2 p
theorem q_forL {α : Type} {enc : α → PyData} {xs : List α} (h : EvD tl σ G (.list (xs.map enc))) (e : Ex G H) (Pv : Nat → VSt → Hp → Hp → Prop) (h0 : ∀ G1 H1, Grow M0 G H G1 H1 → Pv 0 σ G1 H1)
    (hs : ∀ (i : Nat) (x : α) (v : V) σ' G' H', xs[i]? = some x → Ex G G' → Ex G' H' → DD G' v (enc x) → Pv i σ' G' H' →
      ∀ Nx : VSt → Hp → Prop, (∀ σ3 G3 H3, Ex G' G3 → Ex G3 H3 → Pv (i + 1) σ3 G3 H3 → Nx σ3 H3) → g v σ' H' fun σ2 H2 => tu { D with nx := Nx, ct := Nx, bk := tz D } σ2 H2)
    (hd : ∀ σ' G' H', Ex G G' → Ex G' H' → Pv xs.length σ' G' H' → tz D σ' H') : tSeq (tFor (iList K tl) g tu) tz D σ H := s_forL (D := { D with nx := tz D }) h e Pv h0 hs hd
/-- for .. in a tuple -/
theorem s_forT {α : Type} {enc : α → PyData} {xs : List α} (h : EvD tl σ G (.tuple (xs.map enc))) (e : Ex G H) (Pv : Nat → VSt → Hp → Hp → Prop) (h0 : ∀ G1 H1, Grow M0 G H G1 H1 → Pv 0 σ G1 H1)
    (hs : ∀ (i : Nat) (x : α) (v : V) σ' G' H', xs[i]? = some x → Ex G G' → Ex G' H' → DD G' v (enc x) → Pv i σ' G' H' →
      ∀ Nx : VSt → Hp → Prop, (∀ σ3 G3 H3, Ex G' G3 → Ex G3 H3 → Pv (i + 1) σ3 G3 H3 → Nx σ3 H3) → g v σ' H' fun σ2 H2 => tu { D with nx := Nx, ct := Nx, bk := D.nx } σ2 H2)
    (hd : ∀ σ' G' H', Ex G G' → Ex G' H' → Pv xs.length σ' G' H' → D.nx σ' H') : tFor (iTup K tl) g tu D σ H := h.go e fun v G1 H1 g1 hv => by
  obtain ⟨a, ys, rfl, hp, hy⟩ := hv.eqT
  have hlen : ys.length = xs.length := by rw [hy.length, List.length_map]
  refine ⟨a, rfl, ⟨ys, .inl (up_rd hp g1.gh)⟩, for_tup (K := K) (a := a) (xs := ys) (fun i σ' H' => ∃ G', Ex G1 G' ∧ Ex G' H' ∧ Pv i σ' G' H') ⟨G1, Ex.refl G1, g1.gh, h0 G1 H1 g1⟩
    (fun i σ' H' _ ⟨G', e1, e2, _⟩ => .inl (up_rd hp (e1.trans e2))) ?_ ?_⟩
  · rintro i x σ' H' hi ⟨G', e1, e2, p⟩
    have hi' : i < xs.length := by rw [← hlen]; exact (List.getElem?_eq_some_iff.mp hi).1
    obtain ⟨d, hd, hxd⟩ := hy.at hi
    rw [List.getElem?_map, List.getElem?_eq_getElem hi'] at hd
    have ed : enc xs[i] = d := Option.some.inj hd
    subst ed
    exact hs i xs[i] x σ' G' H' (List.getElem?_eq_getElem hi') (g1.g.trans e1) e2 (hxd.up e1) p _ fun σ3 G3 H3 a1 a2 a3 => ⟨G3, e1.trans a1, a2, a3⟩
  · rintro σ' H' ⟨G', e1, e2, p⟩
    rw [hlen] at p
    exact hd σ' G' H' (g1.g.trans e1) e2 p
theorem q_forT {α : Type} {enc : α → PyData} {xs : List α} (h : EvD tl σ G (.tuple (xs.map enc))) (e : Ex G H) (Pv : Nat → VSt → Hp → Hp → Prop) (h0 : ∀ G1 H1, Grow M0 G H G1 H1 → Pv 0 σ G1 H1)
    (hs : ∀ (i : Nat) (x : α) (v : V) σ' G' H', xs[i]? = some x → Ex G G' → Ex G' H' → DD G' v (enc x) → Pv i σ' G' H' →
      ∀ Nx : VSt → Hp → Prop, (∀ σ3 G3 H3, Ex G' G3 → Ex G3 H3 → Pv (i + 1) σ3 G3 H3 → Nx σ3 H3) → g v σ' H' fun σ2 H2 => tu { D with nx := Nx, ct := Nx, bk := tz D } σ2 H2)
    (hd : ∀ σ' G' H', Ex G G' → Ex G' H' → Pv xs.length σ' G' H' → tz D σ' H') : tSeq (tFor (iTup K tl) g tu) tz D σ H := s_forT (D := { D with nx := tz D }) h e Pv h0 hs hd
/-- for .. in range(n): the arguments may change things (Q: what holds behind them) -/
theorem s_forR {ra : TA} {n : Nat} (h : EvA ra σ G [.int (n : Int)]) (e : Ex G H) (hn : n ≤ 100000) (Pv : Nat → VSt → Hp → Hp → Prop) (h0 : ∀ G1 H1, Grow M0 G H G1 H1 → Pv 0 σ G1 H1)
    (hs : ∀ (i : Nat) σ' G' H', i < n → Ex G G' → Ex G' H' → Pv i σ' G' H' →
      ∀ Nx : VSt → Hp → Prop, (∀ σ3 G3 H3, Ex G' G3 → Ex G3 H3 → Pv (i + 1) σ3 G3 H3 → Nx σ3 H3) → g (.int (i : Int)) σ' H' fun σ2 H2 => tu { D with nx := Nx, ct := Nx, bk := D.nx } σ2 H2)
    (hd : ∀ σ' G' H', Ex G G' → Ex G' H' → Pv n σ' G' H' → D.nx σ' H') : tFor (iRng1 ra) g tu D σ H := h G H (Ex.refl G) e _ fun vs G1 H1 g1 hv => by
  obtain ⟨v, r, rfl, hv1, hr⟩ := hv.inv
  obtain rfl := hr.inv0
  obtain rfl := hv1.eqI
  refine ⟨(n : Int), rfl, by omega, by omega, ?_⟩
  have e0 : ((n : Int)).toNat = n := by omega
  rw [e0]
  refine for_range (lo := 0) (n := n) (fun i σ' H' => ∃ G', Ex G1 G' ∧ Ex G' H' ∧ Pv i σ' G' H') ⟨G1, Ex.refl G1, g1.gh, h0 G1 H1 g1⟩ ?_ ?_
  · rintro i σ' H' hi ⟨G', e1, e2, p⟩
    have ez : (0 : Int) + (i : Int) = (i : Int) := Int.zero_add _
    rw [ez]
    exact hs i σ' G' H' hi (g1.g.trans e1) e2 p _ fun σ3 G3 H3 a1 a2 a3 => ⟨G3, e1.trans a1, a2, a3⟩
  · rintro σ' H' ⟨G', e1, e2, p⟩
    exact hd σ' G' H' (g1.g.trans e1) e2 p
theorem q_forR {ra : TA} {n : Nat} (h : EvA ra σ G [.int (n : Int)]) (e : Ex G H) (hn : n ≤ 100000) (Pv : Nat → VSt → Hp → Hp → Prop) (h0 : ∀ G1 H1, Grow M0 G H G1 H1 → Pv 0 σ G1 H1)
    (hs : ∀ (i : Nat) σ' G' H', i < n → Ex G G' → Ex G' H' → Pv i σ' G' H' →
      ∀ Nx : VSt → Hp → Prop, (∀ σ3 G3 H3, Ex G' G3 → Ex G3 H3 → Pv (i + 1) σ3 G3 H3 → Nx σ3 H3) → g (.int (i : Int)) σ' H' fun σ2 H2 => tu { D with nx := Nx, ct := Nx, bk := tz D } σ2 H2)
    (hd : ∀ σ' G' H', Ex G G' → Ex G' H' → Pv n σ' G' H' → tz D σ' H') : tSeq (tFor (iRng1 ra) g tu) tz D σ H := s_forR (D := { D with nx := tz D }) h e hn Pv h0 hs hd
end

/-! ### promises over data, kept by a body -/
/-- what a body of a def owes -/
theorem spR_mk {R : List PyData → (PyData → Prop) → Prop} {vs : List V} {H : Hp} {Q : VK} {E : XK} (h : spR R vs H Q E) : ∃ G ds S, R ds S ∧ Ex G H ∧ DDs G vs ds ∧ ∀ v d G2 H2, S d → Grow M0 G H G2 H2 → DD G2 v d → Q v H2 := h
theorem spR_len {R : List PyData → (PyData → Prop) → Prop} {n : Nat} (hR : ∀ ds S, R ds S → ds.length = n) {vs : List V} {H : Hp} {Q : VK} {E : XK} (h : spR R vs H Q E) : vs.length = n := by
  obtain ⟨G, ds, S, r, _, hd, _⟩ := h
  rw [hd.length]; exact hR ds S r
end CL
set_option Elab.async false
set_option linter.all false
set_option maxRecDepth 100000
set_option maxHeartbeats 4000000
namespace CL
open PySem L2 PySem.Spec PyProof.Rows
abbrev StX_FnR (X : Cx) (k : Nat) (g : Addr) (CX : CXT) (sp : Sp) : Prop := FnR X.prog X.w X.K X.mg X.base CX k g sp
section
variable {X : Cx} {o e : Expr} {to te : TE} {f : Str} {pos apos cpos : Pos}
/-! ### o.f as a target -/
def gFld (K : PySem.W.Frag) (ta : TE) (f : Str) : TG := fun v σ H Q => ta σ H fun x H1 => ∃ a C dx fs, x = .ref a ∧ H1 a = some (.ins C dx fs) ∧ Cls K C ∧ NoAttr K C f ∧ fs.length < 1000 ∧ Q σ (upd H1 a (.ins C dx (putF f v fs)))
theorem pg_fld (ha : PE X o to) : PG X (.Attribute o f pos) (gFld X.K to f) := by
  refine ⟨fun pins s σ H v u Q I r h => ?_⟩
  refine PySem.W.kas_attr (thn (ha.run pins s σ H _ I h) fun ov s1 ⟨x, H1, I1, rx, a, C, dx, fs, ex, ea, c, n, l, q⟩ => ?_)
  subst ex
  obtain rfl : ov = Value.ref a := rx
  exact setattr_ok I1 ea c n l r fun s2 I2 => ⟨σ, _, I2, q⟩
/-! ### xs.count(e): a list, or a tuple that was made for a star -/
def tCnt (K : PySem.W.Frag) (to te : TE) : TE := fun σ H Q => to σ H fun x H1 => ∃ (a : Addr) (ds : List PyData) (d : PyData), x = .ref a ∧
  ((∃ xs, H1 a = some (.lst xs)) ∧ (te σ H1 fun y H2 => Dp K H2 (.ref a) (.list ds) ∧ Dp K H2 y d ∧ PyData.plainAll ds = true ∧ d.plain = true ∧ d.depth ≤ 8 ∧ Q (.int ((ds.countP fun z => PyData.eqv z d : Nat) : Int)) H2) ∨
   (∃ ob xs, H1 a = some (.frz ob (.tup xs)) ∧ ob.dict = none) ∧ (te σ H1 fun y H2 => Dp K H2 (.ref a) (.tuple ds) ∧ Dp K H2 y d ∧ PyData.plainAll ds = true ∧ d.plain = true ∧ d.depth ≤ 8 ∧ Q (.int ((ds.countP fun z => PyData.eqv z d : Nat) : Int)) H2))
theorem pe_cnt (hu : X.A.units + 80 < cLine) (ho : PE X o to) (he : PE X e te) (hs : starEach [e] X.env = (false, eval e X.env) :: starEach [] X.env := by rfl)
    (hbase : attributeBase o "count" X.env (eval o X.env) = eval o X.env := by rfl)
    (hfew : ((backTo cpos (starEach [e] X.env)).all (fun x => !x.1) && (backToKw cpos (keywordEach [] X.env)).all (fun x => x.1.isSome)
      && decide ([e].length + ([] : List Keyword).length + (if ([] : List Keyword).isEmpty then 0 else 1) < 30)) = true := by rfl)
    (hline : (apos.endLine == cpos.line) = true := by rfl) :
    PE X (.Call (.Attribute o "count" apos) [e] [] cpos) (tCnt X.K to te) := by
  refine ⟨fun pins s σ H Q I h => ?_⟩
  refine wpAny_Call_method_late hbase hfew hline rfl (thn (ho.run pins s σ H _ I h) fun v s1 ⟨x, H1, I1, r1, a, ds, d, ex, q1⟩ => ?_)
  subst ex
  cases r1
  have hm : ∀ ds : List PyData, min (PyData.depthAll ds) d.depth ≤ d.depth := fun ds => Nat.min_le_right _ _
  have hpl : (backTo cpos (starEach [] X.env)).any (·.1) = false := rfl
  rcases q1 with ⟨⟨xs, hk⟩, q1⟩ | ⟨⟨ob, xs, hk, hd⟩, q1⟩
  · obtain ⟨its, _, pl, _⟩ := I1.list (.inl (.inl hk))
    refine ⟨"list", "list.count", PySem.F.plainAttrs_list, PySem.F.slot_list_count, PySem.F.type_list_count, pl.isList.typeIs, fun b eb => ?_, ?_⟩
    · cases eb
      obtain ⟨o, n, e1, c, hd, _⟩ := pl
      exact ⟨o, e1, hd⟩
    · have hA := (pa_cons he pa_nil hs).run cpos pins s1 σ H1 (fun vs H2 => ∃ y, vs = [y] ∧ Dp X.K H2 (.ref a) (.list ds) ∧ Dp X.K H2 y d ∧ PyData.plainAll ds = true ∧ d.plain = true ∧ d.depth ≤ 8 ∧ Q (.int ((ds.countP fun z => PyData.eqv z d : Nat) : Int)) H2) I1
        (show te σ H1 _ from by
          have e : (fun (y : V) (H2 : Hp) => Dp X.K H2 (.ref a) (.list ds) ∧ Dp X.K H2 y d ∧ PyData.plainAll ds = true ∧ d.plain = true ∧ d.depth ≤ 8 ∧ Q (.int ((ds.countP fun z => PyData.eqv z d : Nat) : Int)) H2) = fun y H2 => ∃ y', [y] = [y'] ∧ Dp X.K H2 (.ref a) (.list ds) ∧ Dp X.K H2 y' d ∧ PyData.plainAll ds = true ∧ d.plain = true ∧ d.depth ≤ 8 ∧ Q (.int ((ds.countP fun z => PyData.eqv z d : Nat) : Int)) H2 := by
            funext y H2
            exact propext ⟨fun z => ⟨y, rfl, z⟩, fun ⟨y', e, z⟩ => by cases e; exact z⟩
          rw [e] at q1
          exact q1)
      rw [hs] at hA ⊢
      refine Calls.callWith_builtin (by show (false || (backTo cpos (starEach [] X.env)).any (·.1)) = false; rw [hpl]; rfl) (Calls.evalArgs_plain ?_)
      refine thn hA fun us s2 ⟨vs, H2, I2, r2, y, ev, hp, hy, p1, p2, p3, q2⟩ => ?_
      subst ev
      obtain ⟨u, rfl, ru⟩ := r2.one
      obtain ⟨as, ry⟩ := Dp.reads I2 d y u hy ru
      cases hp with
      | lst hq ha =>
        obtain ⟨its, rv, pl, _⟩ := I2.list hq
        obtain ⟨bs, rs⟩ := Dp.readsAll I2 ds _ its ha rv
        exact PySem.SeqAt.count_list_data pl.isList (by simpa using rs) ry p1 p2 (by have := hm ds; omega) ⟨.int _, H2, I2.tok _, ⟨_, rfl⟩, q2⟩
  · obtain ⟨eo, ho⟩ := (show ObjOk X.prog X.w H1 s1.heap a (.frz ob (.tup xs)) from I1.hok a _ hk)
    obtain ⟨_, its0, _, ob', eo', hc, _⟩ := ho
    rw [eo] at eo'; cases eo'
    refine ⟨"tuple", "tuple.count", PySem.F.plainAttrs_tuple, PySem.F.slot_tuple_count, PySem.F.type_tuple_count, ⟨ob, eo, hc⟩, fun b eb => ?_, ?_⟩
    · cases eb
      exact ⟨ob, eo, hd⟩
    · have hA := (pa_cons he pa_nil hs).run cpos pins s1 σ H1 (fun vs H2 => ∃ y, vs = [y] ∧ Dp X.K H2 (.ref a) (.tuple ds) ∧ Dp X.K H2 y d ∧ PyData.plainAll ds = true ∧ d.plain = true ∧ d.depth ≤ 8 ∧ Q (.int ((ds.countP fun z => PyData.eqv z d : Nat) : Int)) H2) I1
        (show te σ H1 _ from by
          have e : (fun (y : V) (H2 : Hp) => Dp X.K H2 (.ref a) (.tuple ds) ∧ Dp X.K H2 y d ∧ PyData.plainAll ds = true ∧ d.plain = true ∧ d.depth ≤ 8 ∧ Q (.int ((ds.countP fun z => PyData.eqv z d : Nat) : Int)) H2) = fun y H2 => ∃ y', [y] = [y'] ∧ Dp X.K H2 (.ref a) (.tuple ds) ∧ Dp X.K H2 y' d ∧ PyData.plainAll ds = true ∧ d.plain = true ∧ d.depth ≤ 8 ∧ Q (.int ((ds.countP fun z => PyData.eqv z d : Nat) : Int)) H2 := by
            funext y H2
            exact propext ⟨fun z => ⟨y, rfl, z⟩, fun ⟨y', e, z⟩ => by cases e; exact z⟩
          rw [e] at q1
          exact q1)
      rw [hs] at hA ⊢
      refine Calls.callWith_builtin (by show (false || (backTo cpos (starEach [] X.env)).any (·.1)) = false; rw [hpl]; rfl) (Calls.evalArgs_plain ?_)
      refine thn hA fun us s2 ⟨vs, H2, I2, r2, y, ev, hp, hy, p1, p2, p3, q2⟩ => ?_
      subst ev
      obtain ⟨u, rfl, ru⟩ := r2.one
      obtain ⟨as, ry⟩ := Dp.reads I2 d y u hy ru
      cases hp with
      | tup hq ha =>
        obtain ⟨its, rv, pl, _⟩ := I2.tuple hq
        obtain ⟨bs, rs⟩ := Dp.readsAll I2 ds _ its ha rv
        exact PySem.SeqAt.count_tuple_data pl (by simpa using rs) ry p1 p2 (by have := hm ds; omega) ⟨.int _, H2, I2.tok _, ⟨_, rfl⟩, q2⟩
/-! ### repr of a bool -/
def rReprB : List V → Hp → VK → Prop := fun xs H Q => ∃ b : Bool, xs = [.bl b] ∧ Q (.str (if b then ("True" : Str) else ("False" : Str))) H
theorem call_repr_bool : CallR X (.builtin "repr") rReprB := by
  intro pins s σ H xs us Q I r h
  obtain ⟨b, rfl, q⟩ := h
  obtain ⟨u, rfl, ru⟩ := r.one
  cases ru
  exact PySem.P.repr_of_bool ⟨.str _, H, I.tok _, ⟨_, rfl⟩, q⟩
/-! ### C(e, .., *y): C a name of the module, or a slot that holds the class -/
section
variable {CX : CXT} {k i : Nat} {g C : Addr} {sp : Sp} {E : XK} {x : Str} {es : List Expr} {t : TA} {p : Pos}
theorem pe_makeSG (M : Mk X.K C g) (F : StX_FnR X k g CX sp) (hr : Room (k + 1) X.A) (hg : Gl X x) (hm : X.mg x = some (.ref C)) (hx : Passes CX X E) (ha : PA X (e :: es) t) (hd : (x == ("__debug__" : Str)) = false := by decide)
    (he : starEach (e :: es) X.env = (false, eval e X.env) :: starEach es X.env := by rfl) (hst : (backTo pos (starEach es X.env)).any (·.1) = true := by rfl) :
    PE X (.Call (.Name x p) (e :: es) [] pos) (StX.tMakeR C sp E t) := by
  refine ⟨fun pins s σ H Q I h => ?_⟩
  refine wpAny_Call_Name_kw (ld_glob I hg hm ?_ hd)
  refine PySem.W.callWith_S2 (h₀ := X.base) I.ok.mod.kin M.kp (thn (ha.run pos pins s σ H _ I h) fun us s1 ⟨vs, H1, I1, r, q⟩ => ⟨I1.kIn, ?_⟩) he hst
  exact StX.run_makeR M F hr hx I1 r q
/-- .. the class in a slot -/
def tMakeL (i : Nat) (C : Addr) (sp : Sp) (E : XK) (t : TA) : TE := fun σ H Q => σ[i]? = some (some (.ref C)) ∧ StX.tMakeR C sp E t σ H Q
theorem pe_makeSL (M : Mk X.K C g) (F : StX_FnR X k g CX sp) (hr : Room (k + 1) X.A) (hx : Passes CX X E) (ha : PA X (e :: es) t) (hN : X.N[i]? = some x := by rfl) (hv : Vis X.env.scope x := by first | exact Or.inl rfl | exact Or.inr (Or.inl rfl)) (hd : (x == ("__debug__" : Str)) = false := by decide)
    (hcd : (x == ("__classdict__" : Str)) = false := by decide)
    (he : starEach (e :: es) X.env = (false, eval e X.env) :: starEach es X.env := by rfl) (hst : (backTo pos (starEach es X.env)).any (·.1) = true := by rfl) :
    PE X (.Call (.Name x p) (e :: es) [] pos) (tMakeL i C sp E t) := by
  refine ⟨fun pins s σ H Q I h => ?_⟩
  obtain ⟨h0, h⟩ := h
  refine wpAny_Call_Name_kw (thn ((pe_var (pos := p) hN hv hd hcd).run pins s σ H (fun v H1 => v = .ref C ∧ H1 = H) I ⟨.ref C, h0, rfl, rfl⟩) fun u s1 ⟨v, H1, I1, r1, q1⟩ => ?_)
  obtain ⟨rfl, rfl⟩ := q1
  cases r1
  refine PySem.W.callWith_S2 (h₀ := X.base) I.ok.mod.kin M.kp (thn (ha.run pos pins s1 σ _ _ I1 h) fun us s2 ⟨vs, H2, I2, r, q⟩ => ⟨I2.kIn, ?_⟩) he hst
  exact StX.run_makeR M F hr hx I2 r q
end
end
/-! ### def f(a, .., *v): what is left over is a tuple whose object is known -/
section
variable {P : Program} {w : World} {K : PySem.W.Frag} {mg : Str → Option Value} {base : Heap}
theorem fn_starF {CX : CXT} {k : Nat} {f : Addr} {name qual : Str} {params : Arguments} {body : List Stmt} {scope : Scope} {dV kV doc pm cdv ct oc : Value} {an od : Option Addr}
    {osl : Array (Option Value)} {N ps : List Str} {sp : Sp} {pv : Str} (lk : K.lookup f = some ⟨oc, od, .func (PySem.W.fnOf name qual params body scope dV kV doc pm an cdv ct), osl⟩) (hcd : PySem.W.codeIn K cdv qual = true) (S : FnScope N (ps ++ [pv]) scope) (hCX : StX.CXUp CX)
    (hb : ∀ us rest : List Value, us.length = ps.length → bindArgs (PySem.W.fnOf name qual params body scope dV kV doc pm an cdv ct) ⟨us ++ rest, []⟩ = (newTuple rest >>= fun t => pure (ps.zip us ++ [(pv, t)])))
    (hbody : ∀ (A : Around) (outer : List Env) (s : Shared) (H : Hp) (vs : List V) (Q : VK) (E : XK), Room k (A.deeper (envOfC qual scope s.heap.objs.size f cdv)) → sp vs H Q E →
      ∃ t, PSs (cxOf CX P w K mg base N qual scope f cdv A outer s H E) body t ∧ t { nx := fun _ H' => Q .non H', rt := Q } (start N vs) H) :
    FnR P w K mg base CX (k + 1) f (fun vs H Q E => ∃ ws rest, vs = ws ++ rest ∧ ws.length = ps.length ∧ rest.length ≤ sizeLine ∧ ∀ p ob, H p = Option.none → ob.dict = Option.none → sp (ws ++ [V.ref p]) (upd H p (.frz ob (.tup rest))) Q E) := by
  intro A outer s H us vs Q E hr e0 r hsp
  obtain ⟨ws, rest, rfl, hl, hz, hq⟩ := hsp
  obtain ⟨u1, u2, rfl, r1, r2⟩ := StX.vals_split r
  have hn : H s.heap.objs.size = Option.none := e0.hok.fresh (Nat.le_refl _)
  have hl1 : u1.length = ps.length := r1.length.symm.trans hl
  have hl2 : u2.length ≤ sizeLine := by rw [← r2.length]; exact hz
  let ob : Obj := { cls := .type "tuple", data := .seq u2.toArray }
  refine StX.run_bnd lk hcd S hr e0 (G := fun xs H2 => ∃ p, H p = Option.none ∧ xs = ws ++ [V.ref p] ∧ H2 = upd H p (.frz ob (.tup rest))) (fun A' Ex Q' h => ?_) fun s2 H2 xs ⟨p, hp, ex, eH⟩ hr' => ?_
  · rw [hb u1 u2 hl1]
    refine wpAny_bind (wpAny_newTuple (wpAny_pure ?_) hl2)
    have at_ : (s.heap.push ob).get? s.heap.objs.size = some ob := Heap.get?_push_size _ rfl
    have new : ObjOk P w (upd H s.heap.objs.size (.frz ob (.tup rest))) (s.heap.push ob) s.heap.objs.size (.frz ob (.tup rest)) := ⟨at_, hz, u2, r2, ob, at_, rfl, _, rfl⟩
    have un := StX.un_laid (fs := frs outer) (s := s) (o := ob) (u := .frz ob (.tup rest)) hn
    have z := h _ _ (ws ++ [V.ref s.heap.objs.size]) (u1 ++ [Value.ref s.heap.objs.size]) (StX.env0_laid e0 new) un rfl (fun e s' => hCX outer s H _ _ E e s' un (fun b o q => Heap.get?_push_of_some _ q) rfl) (r1.append (.cons rfl .nil))
      (by rw [List.length_append, List.length_append, hl]; rfl) ⟨_, hn, rfl, rfl⟩
    rw [List.zip_append hl1.symm] at z
    exact z
  · subst ex eH
    exact hbody A outer s2 _ _ Q E hr' (hq p ob hp rfl)
end
end CL
set_option linter.all false
/-! Plain mathematics: reaching by pairs, the search by levels. -/
namespace CM
inductive Reach (ps : List (Nat × Nat)) (a : Nat) : Nat → Prop
  | refl : Reach ps a a
  | step {b c : Nat} : Reach ps a b → (b, c) ∈ ps → Reach ps a c
theorem Reach.trans {ps : List (Nat × Nat)} {a b c : Nat} (h : Reach ps a b) (k : Reach ps b c) : Reach ps a c := by
  induction k with
  | refl => exact h
  | step _ e ih => exact .step ih e
theorem Reach.mono {ps qs : List (Nat × Nat)} {a b : Nat} (h : Reach ps a b) (k : ∀ p ∈ ps, p ∈ qs) : Reach qs a b := by
  induction h with
  | refl => exact .refl
  | step _ e ih => exact .step ih (k _ e)
theorem Reach.head {ps : List (Nat × Nat)} {a b c : Nat} (e : (a, b) ∈ ps) (h : Reach ps b c) : Reach ps a c := (Reach.step .refl e).trans h
/-- a walk: what lies behind, its last column -/
abbrev Wk := List Nat × Nat
def visit (w : Wk) (st : List Nat × List Wk) (c : Nat) : List Nat × List Wk := if c ∈ st.1 then st else (st.1 ++ [c], st.2 ++ [(w.1 ++ [w.2], c)])
def ends (ps : List (Nat × Nat)) (c : Nat) : List Nat := (List.range 6).filter fun e => decide ((c, e) ∈ ps)
def level (ps : List (Nat × Nat)) (st : List Nat × List Wk) (w : Wk) : List Nat × List Wk := (ends ps w.2).foldl (visit w) st
theorem mem_ends {ps : List (Nat × Nat)} {c e : Nat} : e ∈ ends ps c ↔ e < 6 ∧ (c, e) ∈ ps := by
  unfold ends
  rw [List.mem_filter, List.mem_range, decide_eq_true_eq]
structure MI (ps : List (Nat × Nat)) (a b : Nat) (rest : List Wk) (st : List Nat × List Wk) : Prop where
  nd : st.1.Nodup
  lt : ∀ c ∈ st.1, c < 6
  ha : a ∈ st.1
  re : ∀ c ∈ st.1, Reach ps a c
  w1 : ∀ w ∈ rest, w.2 ∈ st.1 ∧ w.1.length + 1 ≤ st.1.length
  w2 : ∀ w ∈ st.2, w.2 ∈ st.1 ∧ w.1.length + 1 ≤ st.1.length
  ll : st.2.length ≤ st.1.length
  cl : ∀ c ∈ st.1, (∃ w ∈ rest, w.2 = c) ∨ (∃ w ∈ st.2, w.2 = c) ∨ (c ≠ b ∧ ∀ e, (c, e) ∈ ps → e ∈ st.1)
theorem nodup_le6 {l : List Nat} (h : l.Nodup) (k : ∀ c ∈ l, c < 6) : l.length ≤ 6 := by
  have := (List.Nodup.length_le_of_subset (l₁ := l) (l₂ := List.range 6) h fun c hc => List.mem_range.mpr (k c hc))
  rw [List.length_range] at this
  exact this
theorem MI.six {ps : List (Nat × Nat)} {a b : Nat} {rest : List Wk} {st : List Nat × List Wk} (m : MI ps a b rest st) : st.1.length ≤ 6 := nodup_le6 m.nd m.lt
theorem visit_MI {ps : List (Nat × Nat)} {a b : Nat} {rest : List Wk} {st : List Nat × List Wk} {w : Wk} {c : Nat} (m : MI ps a b (w :: rest) st) (hc : c < 6) (he : (w.2, c) ∈ ps) : MI ps a b (w :: rest) (visit w st c) := by
  unfold visit
  by_cases h : c ∈ st.1
  · rw [if_pos h]; exact m
  · rw [if_neg h]
    have hw := m.w1 w List.mem_cons_self
    refine ⟨?_, ?_, ?_, ?_, ?_, ?_, ?_, ?_⟩
    · rw [List.nodup_append]
      refine ⟨m.nd, by simp, fun x hx y hy => ?_⟩
      rw [List.mem_singleton] at hy
      intro e
      exact h (hy ▸ e ▸ hx)
    · intro x hx
      rcases List.mem_append.mp hx with q | q
      · exact m.lt x q
      · rw [List.mem_singleton] at q; rw [q]; exact hc
    · exact List.mem_append_left _ m.ha
    · intro x hx
      rcases List.mem_append.mp hx with q | q
      · exact m.re x q
      · rw [List.mem_singleton] at q; rw [q]; exact .step (m.re _ hw.1) he
    · intro v hv
      obtain ⟨p, q⟩ := m.w1 v hv
      exact ⟨List.mem_append_left _ p, by show _ ≤ (st.1 ++ [c]).length; rw [List.length_append]; simp; omega⟩
    · intro v hv
      rcases List.mem_append.mp hv with q | q
      · obtain ⟨p, q⟩ := m.w2 v q
        exact ⟨List.mem_append_left _ p, by show _ ≤ (st.1 ++ [c]).length; rw [List.length_append]; simp; omega⟩
      · rw [List.mem_singleton] at q
        subst q
        refine ⟨List.mem_append_right _ List.mem_cons_self, ?_⟩
        show (w.1 ++ [w.2]).length + 1 ≤ (st.1 ++ [c]).length
        rw [List.length_append, List.length_append]
        simp
        omega
    · show (st.2 ++ [_]).length ≤ (st.1 ++ [c]).length
      rw [List.length_append, List.length_append]
      have := m.ll
      simp
      omega
    · intro x hx
      rcases List.mem_append.mp hx with q | q
      · rcases m.cl x q with z | ⟨v, hv, e⟩ | ⟨z1, z2⟩
        · exact .inl z
        · exact .inr (.inl ⟨v, List.mem_append_left _ hv, e⟩)
        · exact .inr (.inr ⟨z1, fun e he => List.mem_append_left _ (z2 e he)⟩)
      · rw [List.mem_singleton] at q
        exact .inr (.inl ⟨(w.1 ++ [w.2], c), List.mem_append_right _ List.mem_cons_self, q.symm⟩)
theorem visit_mono (w : Wk) (st : List Nat × List Wk) (c : Nat) : (∀ x ∈ st.1, x ∈ (visit w st c).1) ∧ c ∈ (visit w st c).1 ∧ (visit w st c).1.length + st.2.length = st.1.length + (visit w st c).2.length := by
  unfold visit
  by_cases h : c ∈ st.1
  · rw [if_pos h]; exact ⟨fun _ q => q, h, rfl⟩
  · rw [if_neg h]
    refine ⟨fun _ q => List.mem_append_left _ q, List.mem_append_right _ List.mem_cons_self, ?_⟩
    simp only [List.length_append, List.length_singleton]
    omega
theorem fold_MI {ps : List (Nat × Nat)} {a b : Nat} {rest : List Wk} {w : Wk} : ∀ (es : List Nat) (st : List Nat × List Wk), MI ps a b (w :: rest) st → (∀ c ∈ es, c < 6 ∧ (w.2, c) ∈ ps) → MI ps a b (w :: rest) (es.foldl (visit w) st)
  | [], _, m, _ => m
  | c :: es, st, m, h => fold_MI es _ (visit_MI m (h c List.mem_cons_self).1 (h c List.mem_cons_self).2) fun x hx => h x (List.mem_cons_of_mem _ hx)
theorem fold_mono (w : Wk) : ∀ (es : List Nat) (st : List Nat × List Wk), (∀ x ∈ st.1, x ∈ (es.foldl (visit w) st).1) ∧ (∀ c ∈ es, c ∈ (es.foldl (visit w) st).1) ∧ (es.foldl (visit w) st).1.length + st.2.length = st.1.length + (es.foldl (visit w) st).2.length
  | [], _ => ⟨fun _ q => q, fun _ q => by simp at q, rfl⟩
  | c :: es, st => by
    obtain ⟨a1, a2, a3⟩ := visit_mono w st c
    obtain ⟨b1, b2, b3⟩ := fold_mono w es (visit w st c)
    refine ⟨fun x hx => b1 x (a1 x hx), fun x hx => ?_, ?_⟩
    · rcases List.mem_cons.mp hx with q | q
      · rw [q]; exact b1 c a2
      · exact b2 x q
    · show (es.foldl (visit w) (visit w st c)).1.length + st.2.length = st.1.length + (es.foldl (visit w) (visit w st c)).2.length
      omega
theorem level_MI {ps : List (Nat × Nat)} {a b : Nat} {rest : List Wk} {w : Wk} {st : List Nat × List Wk} (hps : ∀ p ∈ ps, p.1 < 6 ∧ p.2 < 6) (m : MI ps a b (w :: rest) st) (hb : w.2 ≠ b) : MI ps a b rest (level ps st w) := by
  have f := fold_MI (ends ps w.2) st m fun c hc => mem_ends.mp hc
  obtain ⟨f1, f2, _⟩ := fold_mono w (ends ps w.2) st
  have hcl : ∀ e, (w.2, e) ∈ ps → e ∈ (level ps st w).1 := fun e he => f2 e (mem_ends.mpr ⟨(hps _ he).2, he⟩)
  refine ⟨f.nd, f.lt, f.ha, f.re, fun v hv => f.w1 v (List.mem_cons_of_mem _ hv), f.w2, f.ll, fun c hc => ?_⟩
  rcases f.cl c hc with ⟨v, hv, e⟩ | z | z
  · rcases List.mem_cons.mp hv with q | q
    · subst q
      subst e
      exact .inr (.inr ⟨hb, hcl⟩)
    · exact .inl ⟨v, q, e⟩
  · exact .inr (.inl z)
  · exact .inr (.inr z)
theorem level_len (ps : List (Nat × Nat)) (st : List Nat × List Wk) (w : Wk) : (level ps st w).1.length + st.2.length = st.1.length + (level ps st w).2.length := (fold_mono w _ st).2.2
theorem levels_MI {ps : List (Nat × Nat)} {a b : Nat} (hps : ∀ p ∈ ps, p.1 < 6 ∧ p.2 < 6) : ∀ (ws rest : List Wk) (st : List Nat × List Wk), MI ps a b (ws ++ rest) st → (∀ w ∈ ws, w.2 ≠ b) → MI ps a b rest (ws.foldl (level ps) st)
  | [], _, _, m, _ => m
  | w :: ws, rest, st, m, h => levels_MI hps ws rest _ (level_MI hps m (h w List.mem_cons_self)) fun v hv => h v (List.mem_cons_of_mem _ hv)
theorem levels_len (ps : List (Nat × Nat)) : ∀ (ws : List Wk) (st : List Nat × List Wk), (ws.foldl (level ps) st).1.length + st.2.length = st.1.length + (ws.foldl (level ps) st).2.length
  | [], _ => rfl
  | w :: ws, st => by
    have h1 := level_len ps st w
    have h2 := levels_len ps ws (level ps st w)
    show (ws.foldl (level ps) (level ps st w)).1.length + st.2.length = st.1.length + (ws.foldl (level ps) (level ps st w)).2.length
    omega
theorem MI.start {ps : List (Nat × Nat)} {a b : Nat} (ha : a < 6) : MI ps a b [([], a)] ([a], []) :=
  ⟨by simp, fun c hc => by rw [List.mem_singleton] at hc; omega, List.mem_cons_self, fun c hc => by rw [List.mem_singleton] at hc; rw [hc]; exact .refl,
    fun w hw => by rw [List.mem_singleton] at hw; rw [hw]; exact ⟨List.mem_cons_self, Nat.le_refl _⟩, fun w hw => by simp at hw, by simp, fun c hc => .inl ⟨([], a), List.mem_cons_self, by rw [List.mem_singleton] at hc; exact hc.symm⟩⟩
theorem MI.turn {ps : List (Nat × Nat)} {a b : Nat} {st : List Nat × List Wk} (m : MI ps a b [] st) : MI ps a b st.2 (st.1, []) :=
  ⟨m.nd, m.lt, m.ha, m.re, m.w2, fun w hw => by simp at hw, by simp, fun c hc => by
    rcases m.cl c hc with ⟨w, hw, _⟩ | z | z
    · simp at hw
    · exact .inl z
    · exact .inr (.inr z)⟩
theorem MI.hit {ps : List (Nat × Nat)} {a b : Nat} {rest : List Wk} {st : List Nat × List Wk} {w : Wk} (m : MI ps a b rest st) (hw : w ∈ rest) (e : w.2 = b) : Reach ps a b := e ▸ m.re _ (m.w1 w hw).1
theorem MI.none {ps : List (Nat × Nat)} {a b : Nat} {had : List Nat} (m : MI ps a b [] (had, [])) : ¬ Reach ps a b := by
  have cl : ∀ c ∈ had, c ≠ b ∧ ∀ e, (c, e) ∈ ps → e ∈ had := fun c hc => by
    rcases m.cl c hc with ⟨w, hw, _⟩ | ⟨w, hw, _⟩ | z
    · simp at hw
    · simp at hw
    · exact z
  intro h
  have all : ∀ c, Reach ps a c → c ∈ had := fun c hc => by
    induction hc with
    | refl => exact m.ha
    | step _ e ih => exact (cl _ ih).2 _ e
  exact (cl b (all b h)).1 rfl
/-! ### what follows from rules: (whether it settles, a column, a column) -/
noncomputable def reachB (ps : List (Nat × Nat)) (a b : Nat) : Bool := @decide (Reach ps a b) (Classical.propDecidable _)
theorem reachB_iff {ps : List (Nat × Nat)} {a b : Nat} : reachB ps a b = true ↔ Reach ps a b := by
  unfold reachB
  exact @decide_eq_true_iff _ (Classical.propDecidable _)
theorem reachB_not {ps : List (Nat × Nat)} {a b : Nat} : reachB ps a b = false ↔ ¬ Reach ps a b := by
  rw [← reachB_iff]
  cases reachB ps a b <;> simp
theorem reachB_congr {ps qs : List (Nat × Nat)} {a b : Nat} (h : Reach ps a b ↔ Reach qs a b) : reachB ps a b = reachB qs a b := by
  by_cases k : Reach ps a b
  · rw [reachB_iff.mpr k, reachB_iff.mpr (h.mp k)]
  · rw [reachB_not.mpr k, reachB_not.mpr fun z => k (h.mpr z)]
abbrev Ru3 := Bool × Nat × Nat
def downM (r : Ru3) : Nat × Nat := if r.1 = true then (r.2.1, r.2.2) else (r.2.2, r.2.1)
def downsM (rs : List Ru3) : List (Nat × Nat) := rs.map downM
noncomputable def backB (rs : List Ru3) (k : Bool) (r : Ru3) : Bool := reachB (downsM rs) (if k = true then r.2.2 else r.2.1) (if k = true then r.2.1 else r.2.2)
noncomputable def arrow1 (rs : List Ru3) (k : Bool) (r : Ru3) : List (Nat × Nat) :=
  if r.1 = k then (r.2.1, r.2.2) :: (if backB rs k r = true then [(r.2.2, r.2.1)] else []) else []
noncomputable def arrowsM (rs : List Ru3) (k : Bool) : List (Nat × Nat) := rs.flatMap (arrow1 rs k)
noncomputable def followsM (rs : List Ru3) (r : Ru3) : Bool := reachB (arrowsM rs r.1) r.2.1 r.2.2
theorem arrow1_len (rs : List Ru3) (k : Bool) (r : Ru3) : (arrow1 rs k r).length ≤ 2 := by
  unfold arrow1
  split
  · split <;> simp
  · simp
theorem flat_len (rs : List Ru3) (k : Bool) : ∀ qs : List Ru3, (qs.flatMap (arrow1 rs k)).length ≤ 2 * qs.length
  | [] => by simp
  | q :: qs => by
    rw [List.flatMap_cons, List.length_append, List.length_cons]
    have := arrow1_len rs k q
    have := flat_len rs k qs
    omega
theorem arrow1_mem {rs : List Ru3} {k : Bool} {r : Ru3} {p : Nat × Nat} (h : p ∈ arrow1 rs k r) : p = (r.2.1, r.2.2) ∨ p = (r.2.2, r.2.1) := by
  unfold arrow1 at h
  split at h
  · rcases List.mem_cons.mp h with q | q
    · exact .inl q
    · split at q
      · exact .inr (List.mem_singleton.mp q)
      · simp at q
  · simp at h
end CM
set_option Elab.async false
set_option linter.all false
set_option maxRecDepth 100000
set_option maxHeartbeats 4000000
/-! set(xs), xs a list of ints; sorted of it -/
namespace CL
open PySem L2 PySem.Spec PyProof.Rows
/-- a set that was just made -/
abbrev setNew (w : World) : Obj := { cls := .type "set", dict := none, data := .set #[] 0 (.fresh 0 0 (!w.params.followText "set-order")) }
section
variable {P : Program} {w : World} {A : Around} {E : Value → Shared → Prop} {s : Shared}
set_option maxHeartbeats 8000000 in
theorem set_of_list {l : Addr} {items : Array Value} (ns : List Int) {Q : Value → Shared → Prop} (hh : A.handled = none) (hl : s.heap.IsList l items) (hit : IntsAre items.toList ns) (hb : ns.length + 1 < scanBound)
    (h : ∀ (h' : Heap) (tk c : Nat), SetR w h' s.heap.objs.size (fun j => decide (j ∈ ns)) c → c ≤ ns.length → (∀ b o, s.heap.get? b = some o → h'.get? b = some o) → Q (.ref s.heap.objs.size) { s with heap := h', toks := tk }) :
    wpAny (model P w) A (call (.type "set") [.ref l]) Q E s := by
  have size_ns : items.size = ns.length := by rw [← Array.length_toList]; exact IntsAre.length hit
  have eval_made := PySem.F.called_set.made
  have eval_sub := PySem.F.called_set.sub
  have eval_nt := PySem.F.called_set.notType
  have eval_cc := PySem.F.called_set.canCreate
  have eval_tc := PySem.F.typeCall_set_1 (.ref l)
  obtain ⟨c, tl, eval_mro⟩ := PySem.F.called_set.mro
  refine wpAny_call (codeAny_of_tree ?_)
  show wpAny _ _ (callAny (.type "set") _) _ _ _
  refine wpAny_pure ⟨Code.quiet_builtin _ (by decide +kernel), codeAny_builtin PySem.F.entry_type_call ?_⟩
  rw [Around.under_plain (weight_type_call_type "set" [.ref l] []) rfl]
  repeat (any_goals (first | assumption | wp_step))
  refine codeAny_mono (code_set_led1 (.ref l) (E := E) (Q₁ := fun obj s₁ => obj = .ref s.heap.objs.size ∧ s₁ = { s with heap := s.heap.push (setNew w) }) ⟨rfl, rfl⟩) fun r s₁ hr => ?_
  match r, hr with
  | .error _, hr => exact hr
  | .ok (.next), hr => exact hr.elim
  | .ok (.brk), hr => exact hr.elim
  | .ok (.cont), hr => exact hr.elim
  | .ok (.ret obj), hr =>
    obtain ⟨rfl, rfl⟩ := hr
    have got : (s.heap.push (setNew w)).get? s.heap.objs.size = some (setNew w) := Heap.get?_push_size _ rfl
    have tyS : Shared.TypeIs { s with heap := s.heap.push (setNew w) } (.ref s.heap.objs.size) "set" := ⟨_, got, rfl⟩
    have init_look := PySem.F.called_set.init.lookup
    have init_bind := PySem.F.called_set.init.bind (.ref s.heap.objs.size)
    repeat (any_goals (first | assumption | wp_step))
    refine codeAny_mono (codeAny_call_builtin (R := wants (fun r s₂ => r = .none ∧ ∃ h' tk c, s₂ = { s with heap := h', toks := tk } ∧ SetR w h' s.heap.objs.size (fun j => decide (j ∈ ns)) c ∧ c ≤ ns.length ∧
        (∀ b o, s.heap.get? b = some o → h'.get? b = some o)) E) PySem.F.called_set.init.plain PySem.F.entry_set_init (check_set_init_1 tyS ?_)) fun r₂ s₂ hr₂ => ?_
    · obtain ⟨⟨ocls, odict, odata, oslots⟩, atl, cl, nl, dl⟩ := hl
      simp only at cl dl
      subst cl; subst dl
      have atl' : (s.heap.push (setNew w)).get? l = some { cls := .type "list", dict := odict, data := .seq items nl, slots := oslots } := Heap.get?_push_of_some _ atl
      have sub1 := PySem.F.sub_list_set
      have sub2 := PySem.F.sub_list_frozenset
      have nodict : (Value.type "list" == Value.type "dict") = false := by decide
      have isl : (s.heap.push (setNew w)).IsList l items := ⟨_, atl', rfl, nl, rfl⟩
      unfold Builtin.«set.__init__» noKeywords Builtin.Frozenset.updateFrom
      generalize eqPI : pyIter = PI
      wp_walk
      subst eqPI
      refine wpAny_pyIter_list isl (wpAny_bind (wpAny_runValue ?_))
      have lt_l : l < s.heap.objs.size := Heap.lt_size atl
      have h3 : A.in1.in1.in1.handled = none := by simp [hh]
      have sz1 : (s.heap.push (setNew w)).objs.size = s.heap.objs.size + 1 := Heap.size_push ..
      have ne_it : l ≠ (s.heap.push (setNew w)).objs.size := by rw [sz1]; exact Nat.ne_of_lt (Nat.lt_succ_of_lt lt_l)
      have out_fp : s.heap.objs.size ∉ [(s.heap.push (setNew w)).objs.size, l] := by
        rw [sz1]; simp only [List.mem_cons, List.not_mem_nil, or_false, not_or]
        exact ⟨Nat.ne_of_lt (Nat.lt_succ_self _), Nat.ne_of_gt lt_l⟩
      have item_int : ∀ (i : Nat) (v : Value), items[i]? = some v → ∃ k t, ns[i]? = some k ∧ v = .int k t := fun i v hv => by
        have hi : i < ns.length := by rw [← size_ns]; exact (Array.getElem?_eq_some_iff.mp hv).1
        obtain ⟨t, e⟩ := PyProof.Rows.IntsAre.int_at hit i v (by rw [Array.getElem?_toList]; exact hv)
        exact ⟨ns[i], t, List.getElem?_eq_getElem hi, by rw [e, List.getD_eq_getElem?_getD, List.getElem?_eq_getElem hi]; rfl⟩
      refine set_update_ints ((Walks.list h3 _ l ne_it items).toS) s.heap.objs.size out_fp ns size_ns hb item_int (items.size - 0) 0 _ (by omega) (Nat.zero_le _)
        ⟨⟨_, Heap.get?_push_size _ rfl, rfl, rfl⟩, (isl.push _)⟩ ?start ?fin
      case start =>
        have got2 : ((s.heap.push (setNew w)).push { cls := .type "list_iterator", data := .fields #[.ref l, .int 0 0] }).get? s.heap.objs.size = some (setNew w) := Heap.get?_push_of_some _ got
        exact ⟨0, Nat.le_refl 0, setR_new_at got2⟩
      case fin =>
        rintro ⟨h', g2, d', tk', os'⟩ c' hm hc' hS'
        obtain rfl : g2 = s.gens := hm.gens
        obtain rfl : d' = s.drawn := hm.drawn
        obtain rfl : os' = s.os := hm.os
        show wpAny _ _ _ _ _ _
        refine wpAny_pure ?_
        show wpAny _ _ (ret Value.none) _ _ _
        rw [size_ns] at hc'
        refine wpAny_pure ⟨rfl, h', tk', c', rfl, hS', hc', fun b o e => ?_⟩
        have ltb : b < s.heap.objs.size := Heap.lt_size e
        have nb : b ≠ (s.heap.push (setNew w)).objs.size := by rw [sz1]; exact Nat.ne_of_lt (Nat.lt_succ_of_lt ltb)
        exact hm.heap b o (by simp only [List.mem_cons, List.not_mem_nil, or_false, not_or]; exact ⟨Nat.ne_of_lt ltb, nb⟩) (Heap.get?_push_of_some _ (Heap.get?_push_of_some _ e))
    · match r₂, hr₂ with
      | .error _, hr₂ => exact hr₂
      | .ok (.next), hr₂ => exact hr₂.elim
      | .ok (.brk), hr₂ => exact hr₂.elim
      | .ok (.cont), hr₂ => exact hr₂.elim
      | .ok (.ret r), hr₂ =>
        obtain ⟨rfl, h', tk, c', rfl, hS', hc', hk'⟩ := hr₂
        repeat (any_goals (first | assumption | wp_step))
        exact h _ _ _ hS' hc' hk'
end
section
variable {X : Cx}
def rSetL (K : PySem.W.Frag) (w : World) : List V → Hp → VK → Prop := fun vs H Q => ∃ (a : Addr) (ns : List Int), vs = [.ref a] ∧ SqL K H a (ns.map V.int) ∧ ns.length ≤ 1000 ∧
  ∀ p c, H p = none → (∀ D : List Int, (∀ k ∈ ns, k ∈ D) → c ≤ D.length) → Q (.ref p) (upd H p (SetO w p (fun j => decide (j ∈ ns)) c))
theorem cr_setL (hc : X.calm = true) : CallR X (.type "set") (rSetL X.K X.w) := by
  intro pins s σ H xs us Q I r h
  obtain ⟨a, ns, rfl, hs, hl, q⟩ := h
  rw [Vals.ref1 r]
  obtain ⟨its, rv, pl, _⟩ := I.list hs
  have hi : IntsAre its.toArray.toList ns := ints_of_vals rv
  refine set_of_list ns (I.ok.hd hc) pl.isList hi (by unfold scanBound; omega) fun h' tk c R hcn k => ?_
  have hn : H s.heap.objs.size = none := I.hok.fresh (Nat.le_refl _)
  refine ⟨.ref _, upd H s.heap.objs.size (SetO X.w s.heap.objs.size (fun j => decide (j ∈ ns)) c), I.laid (t' := tk) (fun b u e => k b u e) (Nat.le_refl _) (setO_new R), rfl, q _ c hn fun D hD => ?_⟩
  obtain ⟨_, es, _, _, _, _, _, _, nd, hm, _, _, hz, _⟩ := R
  have hl2 : c = (es.toList.map keyOf).length := by rw [List.length_map, Array.length_toList]; exact hz.symm
  rw [hl2]
  exact List.Nodup.length_le_of_subset nd fun x hx => hD x (of_decide_eq_true ((hm x).mpr hx))
end
theorem up_unique : ∀ (l m : List Int), l.Pairwise (· < ·) → m.Pairwise (· < ·) → (∀ k, k ∈ l ↔ k ∈ m) → l = m
  | [], [], _, _, _ => rfl
  | [], y :: m, _, _, h => absurd ((h y).mpr List.mem_cons_self) (by simp)
  | x :: l, [], _, _, h => absurd ((h x).mp List.mem_cons_self) (by simp)
  | x :: l, y :: m, hl, hm, h => by
    rw [List.pairwise_cons] at hl hm
    have e : x = y := by
      rcases List.mem_cons.mp ((h x).mp List.mem_cons_self) with q | q
      · exact q
      · rcases List.mem_cons.mp ((h y).mpr List.mem_cons_self) with q2 | q2
        · exact q2.symm
        · have := hl.1 y q2
          have := hm.1 x q
          omega
    subst e
    congr 1
    refine up_unique l m hl.2 hm.2 fun k => ⟨fun q => ?_, fun q => ?_⟩
    · rcases List.mem_cons.mp ((h k).mp (List.mem_cons_of_mem _ q)) with z | z
      · have := hl.1 k q; omega
      · exact z
    · rcases List.mem_cons.mp ((h k).mpr (List.mem_cons_of_mem _ q)) with z | z
      · have := hm.1 k q; omega
      · exact z
/-- sorted(set(ns)), the members below m -/
theorem sorted_members {ns out : List Int} {m : Nat} (h : ∀ k ∈ ns, 0 ≤ k ∧ k < (m : Int)) (hp : out.Pairwise (· < ·)) (hm : ∀ k : Int, k ∈ out ↔ k ∈ ns) : out = ((List.range m).filter fun i => decide (((i : Nat) : Int) ∈ ns)).map fun i => ((i : Nat) : Int) := by
  refine up_unique _ _ hp ?_ fun k => ?_
  · refine List.Pairwise.map _ (fun a b h => ?_) (List.Pairwise.filter _ List.pairwise_lt_range)
    exact Int.ofNat_lt.mpr h
  · rw [hm k, List.mem_map]
    constructor
    · intro q
      obtain ⟨h0, h1⟩ := h k q
      refine ⟨k.toNat, List.mem_filter.mpr ⟨List.mem_range.mpr (by omega), decide_eq_true ?_⟩, by omega⟩
      rw [Int.toNat_of_nonneg h0]; exact q
    · rintro ⟨i, q, rfl⟩
      exact of_decide_eq_true (List.mem_filter.mp q).2
section
variable {σ : VSt} {G : Hp} {te : TE} {K : PySem.W.Frag} {w : World}
theorem d_sortset {ns : List Int} {m : Nat} (h : EvD te σ G (.list (ns.map PyData.int))) (hl : ns.length ≤ 1000) (hm6 : m < 64) (hb : ∀ k ∈ ns, 0 ≤ k ∧ k < (m : Int)) :
    EvM (tCB (rSortedSet w) (tCons (tCB (rSetL K w) (tCons te tNil)) tNil)) σ G (((List.range m).filter fun i => decide (((i : Nat) : Int) ∈ ns)).map fun i => PyData.int ((i : Nat) : Int)) := fun G1 H1 e1 e2 Q q =>
  h.go' e1 e2 fun v G2 H2 g2 hv => by
    obtain ⟨a, xs, rfl, hp, hx⟩ := hv.eqL
    have ex := hx.ints
    subst ex
    refine ⟨a, ns, rfl, .inl (.inl (g2.gh _ _ hp)), by omega, fun p c hp2 hc => ?_⟩
    have hc6 : c ≤ m := by
      have z := hc ((List.range m).map fun i => ((i : Nat) : Int)) fun k hk => by
        obtain ⟨a1, a2⟩ := hb k hk
        exact List.mem_map.mpr ⟨k.toNat, List.mem_range.mpr (by omega), by omega⟩
      rw [List.length_map, List.length_range] at z
      exact z
    refine ⟨p, _, c, rfl, upd_same, by omega, fun out p3 ho hm hlen hp3 => ?_⟩
    have eo : out = ((List.range m).filter fun i => decide (((i : Nat) : Int) ∈ ns)).map fun i => ((i : Nat) : Int) := sorted_members hb ho fun k => by rw [hm k]; simp
    have g3 : Grow M0 G2 H2 G2 (upd H2 p (SetO w p (fun j => decide (j ∈ ns)) c)) := Grow.mnew g2.gh hp2
    have g4 := (g2.trans g3).trans (Grow.mnew (o := .lst (out.map V.int)) g3.gh hp3)
    have ep : (((List.range m).filter fun i => decide (((i : Nat) : Int) ∈ ns)).map fun i => PyData.int ((i : Nat) : Int)) = out.map PyData.int := by rw [eo, List.map_map]; rfl
    rw [ep] at q
    exact q p3 _ _ (g2.there _ (g3.there _ hp3)) g4 (ML.new g3.gh hp3 (DDs.ofInts _ out))
end
end CL
set_option Elab.async false
set_option linter.all false
set_option maxRecDepth 100000
set_option maxHeartbeats 4000000
namespace CL
open PySem L2 CM
/-! ### a def of the module, ready to be called -/
structure Fn1 (P : Program) (w : World) (K : PySem.W.Frag) (mg : Str → Option Value) (base : Heap) (x : Str) (k : Nat) (sp : Sp) : Prop where
  ex : ∃ (f : Addr) (fd : FuncData) (ps : List Str), FnOk P w K mg base CX0 k f fd ps sp ∧ mg x = some (.ref f) ∧ PySem.W.keepIn K (.ref f) = true ∧ Binds K fd ps []
theorem pe_fn {X : Cx} {x : Str} {k : Nat} {sp : Sp} {p pos : Pos} {e : Expr} {es : List Expr} {t : TA} (F : Fn1 X.prog X.w X.K X.mg X.base x k sp) (hr : Room k X.A) (hg : Gl X x) (ha : PA X (e :: es) t) (hdb : (x == ("__debug__" : Str)) = false := by decide)
    (he : starEach (e :: es) X.env = (false, eval e X.env) :: starEach es X.env := by rfl) (hpl : (backTo pos (starEach es X.env)).any (·.1) = false := by rfl) :
    PE X (.Call (.Name x p) (e :: es) [] pos) (tCall sp [] E0 t) := by
  obtain ⟨f, fd, ps, F, hm, hk, hb⟩ := F.ex
  exact pe_call F hr hg hm hk hb .nil pass0 ha hdb he hpl
theorem h64 {k : Nat} {A : Around} (hr : Room k A) : A.units + 64 < cLine := hr.units
theorem h65 {k : Nat} {A : Around} (hr : Room k A) : A.units + 65 < cLine := by have := hr.un; omega
theorem h80 {k : Nat} {A : Around} (hr : Room k A) : A.units + 80 < cLine := by have := hr.un; omega
/-- the scope of the first comprehension of a def -/
def lcScope (s : Stmt) : Scope := match defBody s with
  | .Assign _ (.ListComp _ _ sc _) _ :: _ => sc
  | _ => { kind := .function, names := [], isGenerator := false, isCoroutine := false }

/-! ### data of the program -/
abbrev I1 (n : Nat) : PyData := .int (n : Int)
abbrev P2 (p : Nat × Nat) : PyData := .tuple [.int (p.1 : Int), .int (p.2 : Int)]
/-- a rule: whether it settles, its columns -/
abbrev Ru := Bool × Nat × Nat
def kd (k : Bool) : Str := if k then "settles" else "within"
abbrev RU (r : Ru) : PyData := .tuple [.str (kd r.1), .int (r.2.1 : Int), .int (r.2.2 : Int)]
abbrev WK (w : Wk) : PyData := .tuple ((w.1 ++ [w.2]).map I1)
theorem kd_inj {a b : Bool} (h : kd a = kd b) : a = b := by
  cases a <;> cases b <;> first | rfl | exact absurd h (by decide +kernel)
theorem kd_eq (a b : Bool) : (kd a == kd b) = (a == b) := by
  cases a <;> cases b <;> decide +kernel
theorem eqv_int (i j : Int) : PyData.eqv (.int i) (.int j) = decide (i = j) := by
  simp only [PyData.eqv]
  by_cases h : i = j
  · rw [h]; simp
  · rw [decide_eq_false h]; exact beq_eq_false_iff_ne.mpr h
theorem eqv_I1 (i j : Nat) : PyData.eqv (I1 i) (I1 j) = decide (i = j) := by
  rw [eqv_int]
  by_cases h : i = j
  · rw [h]; simp
  · rw [decide_eq_false h, decide_eq_false (by omega)]
theorem eqv_str (i j : Str) : PyData.eqv (.str i) (.str j) = decide (i = j) := by
  simp only [PyData.eqv]
  by_cases h : i = j
  · rw [h]; simp
  · rw [decide_eq_false h]; exact beq_eq_false_iff_ne.mpr h
theorem eqv_P2 (p q : Nat × Nat) : PyData.eqv (P2 p) (P2 q) = decide (p = q) := by
  obtain ⟨a, b⟩ := p
  obtain ⟨c, d⟩ := q
  show PyData.eqv (.tuple [I1 a, I1 b]) (.tuple [I1 c, I1 d]) = _
  rw [PyData.eqv, PyData.eqvAll, PyData.eqvAll, PyData.eqvAll, eqv_I1, eqv_I1]
  by_cases h1 : a = c
  · by_cases h2 : b = d
    · subst h1 h2; simp
    · have : ¬ ((a, b) = (c, d)) := fun e => h2 (Prod.mk.inj e).2
      rw [decide_eq_false this, decide_eq_false h2]; simp
  · have : ¬ ((a, b) = (c, d)) := fun e => h1 (Prod.mk.inj e).1
    rw [decide_eq_false this, decide_eq_false h1]; simp
theorem eqv_RU (p q : Ru) : PyData.eqv (RU p) (RU q) = decide (p = q) := by
  obtain ⟨k, a, b⟩ := p
  obtain ⟨l, c, d⟩ := q
  show PyData.eqv (.tuple [.str (kd k), I1 a, I1 b]) (.tuple [.str (kd l), I1 c, I1 d]) = _
  rw [PyData.eqv, PyData.eqvAll, PyData.eqvAll, PyData.eqvAll, PyData.eqvAll, eqv_I1, eqv_I1, eqv_str]
  by_cases h0 : k = l
  · by_cases h1 : a = c
    · by_cases h2 : b = d
      · subst h0 h1 h2; simp
      · have : ¬ ((k, a, b) = (l, c, d)) := fun e => h2 (Prod.mk.inj (Prod.mk.inj e).2).2
        rw [decide_eq_false this, decide_eq_false h2]; simp
    · have : ¬ ((k, a, b) = (l, c, d)) := fun e => h1 (Prod.mk.inj (Prod.mk.inj e).2).1
      rw [decide_eq_false this, decide_eq_false h1]; simp
  · have : ¬ ((k, a, b) = (l, c, d)) := fun e => h0 (Prod.mk.inj e).1
    rw [decide_eq_false this, decide_eq_false (fun e => h0 (kd_inj e))]; simp
theorem any_eqv {α : Type} [DecidableEq α] {enc : α → PyData} (h : ∀ x y, PyData.eqv (enc x) (enc y) = decide (x = y)) (x : α) : ∀ xs : List α, ((xs.map enc).any fun z => PyData.eqv z (enc x)) = decide (x ∈ xs)
  | [] => by simp
  | y :: ys => by
    rw [List.map_cons, List.any_cons, h, any_eqv h x ys]
    by_cases e : y = x
    · subst e; simp
    · rw [decide_eq_false e, Bool.false_or]
      by_cases m : x ∈ ys
      · simp [m]
      · rw [decide_eq_false m]
        exact (decide_eq_false (fun z => (List.mem_cons.mp z).elim (fun q => e q.symm) m)).symm
theorem shaped_int (i : Int) : SeqAt.shaped (.int i) = true := rfl
theorem shaped_kd (k : Bool) : SeqAt.shaped (.str (kd k)) = true := by cases k <;> decide +kernel
/-- data that lie flat enough -/
def Lay (n : Nat) (d : PyData) : Prop := d.canLay0 = true ∧ d.depth ≤ n
theorem Lay.shaped {n : Nat} {d : PyData} (h : Lay n d) (hn : n ≤ 64 := by decide) : SeqAt.shaped d = true := by
  show (d.canLay0 && decide (d.depth ≤ 64)) = true
  rw [h.1, Bool.true_and]
  have := h.2
  exact decide_eq_true (by omega)
theorem Lay.all {n : Nat} : ∀ {ds : List PyData}, (∀ d ∈ ds, Lay n d) → PyData.canLayAll0 ds = true ∧ PyData.depthAll ds ≤ n
  | [], _ => ⟨by simp [PyData.canLayAll0], by simp [PyData.depthAll]⟩
  | d :: ds, h => by
    obtain ⟨h1, h2⟩ := h d List.mem_cons_self
    obtain ⟨h3, h4⟩ := Lay.all (ds := ds) fun x hx => h x (List.mem_cons_of_mem _ hx)
    refine ⟨?_, ?_⟩
    · simp only [PyData.canLayAll0, h1, h3, Bool.and_self]
    · simp only [PyData.depthAll]
      exact Nat.max_le.mpr ⟨h2, h4⟩
theorem Lay.list {n : Nat} {ds : List PyData} (h : ∀ d ∈ ds, Lay n d) : Lay (n + 1) (.list ds) := by
  obtain ⟨h1, h2⟩ := Lay.all h
  refine ⟨by simp only [PyData.canLay0]; exact h1, ?_⟩
  simp only [PyData.depth]
  omega
theorem Lay.tuple {n : Nat} {ds : List PyData} (h : ∀ d ∈ ds, Lay n d) : Lay (n + 1) (.tuple ds) := by
  obtain ⟨h1, h2⟩ := Lay.all h
  refine ⟨by simp only [PyData.canLay0]; exact h1, ?_⟩
  simp only [PyData.depth]
  omega
theorem Lay.mono {n m : Nat} {d : PyData} (h : Lay n d) (k : n ≤ m) : Lay m d := ⟨h.1, Nat.le_trans h.2 k⟩
theorem lay_int (i : Int) : Lay 0 (.int i) := ⟨rfl, by simp [PyData.depth]⟩
theorem lay_bool (i : Bool) : Lay 0 (.bool i) := ⟨rfl, by simp [PyData.depth]⟩
theorem lay_none : Lay 0 .none := ⟨rfl, by simp [PyData.depth]⟩
theorem lay_kd (k : Bool) : Lay 0 (.str (kd k)) := by cases k <;> exact ⟨by decide +kernel, by simp [PyData.depth]⟩
theorem lay_I1s (ns : List Nat) : ∀ d ∈ ns.map I1, Lay 0 d := fun d h => by
  obtain ⟨n, _, rfl⟩ := List.mem_map.mp h
  exact lay_int _
theorem lay_P2 (p : Nat × Nat) : Lay 1 (P2 p) := Lay.tuple fun d h => by
  simp only [List.mem_cons, List.not_mem_nil, or_false] at h
  rcases h with rfl | rfl <;> exact lay_int _
theorem lay_RU (p : Ru) : Lay 1 (RU p) := Lay.tuple fun d h => by
  simp only [List.mem_cons, List.not_mem_nil, or_false] at h
  rcases h with rfl | rfl | rfl
  · exact lay_kd _
  · exact lay_int _
  · exact lay_int _
theorem lay_WK (p : Wk) : Lay 1 (WK p) := Lay.tuple (lay_I1s _)
theorem lay_map {α : Type} {enc : α → PyData} {n : Nat} (h : ∀ x, Lay n (enc x)) (xs : List α) : Lay (n + 1) (.list (xs.map enc)) := Lay.list fun d hd => by
  obtain ⟨x, _, rfl⟩ := List.mem_map.mp hd
  exact h x
theorem atI_last1 {α β : Type} (xs : List α) (x : α) (f : α → β) : atI ((xs ++ [x]).map f) (-1) = some (f x) := by
  rw [List.map_append]
  exact atI_last _ _
theorem atI_at {α : Type} {xs : List α} {i : Nat} {x : α} (h : xs[i]? = some x) : atI xs (i : Int) = some x := atI_nat h
end CL
set_option Elab.async false
set_option linter.all false
set_option maxRecDepth 100000
set_option maxHeartbeats 4000000
/-! Rules whose reading names the written part K itself (so they serve in a comprehension's block). -/
namespace CL
open PySem L2
section
variable {X : Cx} (K : PySem.W.Frag)
theorem ix_seqK (h : X.K = K := by rfl) : IxR X (rIx K) := h ▸ ix_seq
theorem eqDK (hu : X.A.units + 64 < cLine) (h : X.K = K := by rfl) : OpR X (compareOp .Eq) (rEqD K) := h ▸ op_eqD hu
theorem neDK (hu : X.A.units + 64 < cLine) (h : X.K = K := by rfl) : OpR X (compareOp .NotEq) (rNeD K) := h ▸ op_neD hu
theorem inDK (hu : X.A.units + 65 < cLine) (h : X.K = K := by rfl) : OpR X (compareOp .In) (rInD K) := h ▸ op_inD hu
theorem notInDK (hu : X.A.units + 65 < cLine) (h : X.K = K := by rfl) : OpR X (compareOp .NotIn) (rNotInD K) := h ▸ op_notInD hu
theorem inTK (h : X.K = K := by rfl) : OpR X (compareOp .In) (rIn K false) := h ▸ op_in_seq
theorem catTK (h : X.K = K := by rfl) : OpR X (binaryOp .Add) (rCatT K) := h ▸ op_catT
theorem slLK (h : X.K = K := by rfl) : SlR X (rSlL K) := h ▸ sl_list
theorem crAllK (hc : X.calm = true) (h : X.K = K := by rfl) : CallR X (.builtin "all") (rAll K) := h ▸ cr_all hc
theorem crSetK (w : World) (hc : X.calm = true) (h : X.K = K := by rfl) (hw : X.w = w := by rfl) : CallR X (.type "set") (rSetL K w) := h ▸ hw ▸ cr_setL hc
theorem crSortedK (w : World) (hc : X.calm = true) (hw : X.w = w := by rfl) : CallR X (.builtin "sorted") (rSortedSet w) := hw ▸ cr_sortedSet hc
def rLen (K : PySem.W.Frag) : List V → Hp → VK → Prop := fun xs H Q => ∃ x n, xs = [x] ∧ LenV K x H n ∧ Q (.int (n : Nat)) H
theorem crLenK (h : X.K = K := by rfl) : CallR X (.builtin "len") (rLen K) := h ▸ call_len
theorem crIsiK (h : X.K = K := by rfl) : CallR X (.builtin "isinstance") (rIsi K) := h ▸ call_isi
theorem piListK {tg l : Expr} {tl : TE} (hl : PE X l tl) (h : X.K = K := by rfl) : PI X tg l (iList K tl) := h ▸ pi_list hl
theorem piTupK {tg l : Expr} {tl : TE} (hl : PE X l tl) (h : X.K = K := by rfl) : PI X tg l (iTup K tl) := h ▸ pi_tup hl
theorem pgTupK {es : List Expr} {k : Nat} {t : TGs} {n : Nat} {pos : Pos} (ht : PGs X es t) (hc : X.calm = true := by rfl) (hn : (assignEach es X.env).length = n := by rfl) (hst : (assignEach es X.env).findIdx? (·.1) = none := by rfl) (h : X.K = K := by rfl) :
    PG X (.Tuple es k pos) (gTup K n t) := h ▸ pg_tup hc ht hn hst
theorem peCntK {o e : Expr} {to te : TE} {apos cpos : Pos} (hu : X.A.units + 80 < cLine) (ho : PE X o to) (he : PE X e te) (h : X.K = K := by rfl) (hs : starEach [e] X.env = (false, eval e X.env) :: starEach [] X.env := by rfl)
    (hbase : attributeBase o "count" X.env (eval o X.env) = eval o X.env := by rfl)
    (hfew : ((backTo cpos (starEach [e] X.env)).all (fun x => !x.1) && (backToKw cpos (keywordEach [] X.env)).all (fun x => x.1.isSome)
      && decide ([e].length + ([] : List Keyword).length + (if ([] : List Keyword).isEmpty then 0 else 1) < 30)) = true := by rfl)
    (hline : (apos.endLine == cpos.line) = true := by rfl) : PE X (.Call (.Attribute o "count" apos) [e] [] cpos) (tCnt K to te) := h ▸ pe_cnt hu ho he hs hbase hfew hline
theorem peFldK {e : Expr} {ta : TE} {f : Str} {pos : Pos} (he : PE X e ta) (h : X.K = K := by rfl) (hb : attributeBase e f X.env (eval e X.env) = eval e X.env := by rfl) : PE X (.Attribute e f pos) (tFld K ta f) := h ▸ pe_fld he hb
end
section
variable {X : Cx} {pos : Pos}
/-- a name as a target -/
theorem pgN (i : Nat) {x : Str} (hN : X.N.Nodup) (hi : X.N[i]? = some x := by rfl) (hx : Loc X.env.scope x := by first | exact Or.inl rfl | exact Or.inr rfl) (hf : X.fn x = true ∨ X.env.scope.names.lookup x = some .local := by first | exact Or.inl rfl | exact Or.inr rfl) :
    PG X (.Name x pos) (gName i) := pg_name hN hi hx hf
end
section
variable {σ : VSt} {G H : Hp} {ta tb te tl : TE} {t : TT} {d d' : PyData} {D : Ends} {tu tw tz : TS}
theorem q_parDM {i j : Nat} {ds : List PyData} (h1 : EvD ta σ G d) (h2 : EvM tb σ G ds) (e : Ex G H) (k : ∀ v p G2 H2, H p = none → Grow M0 G H G2 H2 → DD G2 v d → ML G2 H2 p ds → tz D ((σ.set i (some v)).set j (some (.ref p))) H2) :
    tSeq (tPar i j (tCons ta (tCons tb tNil))) tz D σ H := h1.go e fun v G1 H1 g1 hv => h2 G1 H1 g1.g g1.gh _ fun p G2 H2 hp g2 m => ⟨v, .ref p, rfl, k v p G2 H2 (g1.there p hp) (g1.trans g2) (hv.up g2.g) m⟩
theorem q_parMM {i j : Nat} {ds es : List PyData} (h1 : EvM ta σ G ds) (h2 : EvM tb σ G es) (e : Ex G H) (k : ∀ p q G2 H2, H p = none → H q = none → p ≠ q → Grow M0 G H G2 H2 → ML G2 H2 p ds → ML G2 H2 q es → tz D ((σ.set i (some (.ref p))).set j (some (.ref q))) H2) :
    tSeq (tPar i j (tCons ta (tCons tb tNil))) tz D σ H := h1 G H (Ex.refl G) e _ fun p G1 H1 hp g1 m => h2 G1 H1 g1.g g1.gh _ fun q G2 H2 hq g2 m2 =>
      ⟨.ref p, .ref q, rfl, k p q G2 H2 hp (g1.there q hq) (fun z => m.there (z ▸ hq)) (g1.trans g2) (m.grow0 g2) m2⟩
theorem q_parDD {i j : Nat} (h1 : EvD ta σ G d) (h2 : EvD tb σ G d') (e : Ex G H) (k : ∀ v u G2 H2, Grow M0 G H G2 H2 → DD G2 v d → DD G2 u d' → tz D ((σ.set i (some v)).set j (some u)) H2) :
    tSeq (tPar i j (tCons ta (tCons tb tNil))) tz D σ H := h1.go e fun v G1 H1 g1 hv => h2.go' g1.g g1.gh fun u G2 H2 g2 hu => ⟨v, u, rfl, k v u G2 H2 (g1.trans g2) (hv.up g2.g) hu⟩
/-- while, by a word that falls -/
theorem q_while (W : Nat → VSt → Hp → Hp → Prop) (m0 : Nat) (h0 : W m0 σ G H)
    (hs : ∀ m σ' G' H', W m σ' G' H' → Ex G' H' ∧ ∃ b, EvB t σ' G' b ∧
      (b = true → ∀ G1 H1, Grow M0 G' H' G1 H1 → ∀ N : VSt → Hp → Prop, (∀ m' σ2 G2 H2, m' < m → W m' σ2 G2 H2 → N σ2 H2) → tu { D with nx := N, ct := N, bk := tz D } σ' H1) ∧ (b = false → ∀ G1 H1, Grow M0 G' H' G1 H1 → tz D σ' H1)) :
    tSeq (tWhile t tu) tz D σ H := ⟨fun m σ' H' => ∃ G', W m σ' G' H', ⟨m0, G, h0⟩, fun m σ' H' ⟨G', hw⟩ => by
    obtain ⟨e, b, hb, h1, h2⟩ := hs m σ' G' H' hw
    refine hb G' H' (Ex.refl G') e _ fun G1 H1 g1 => ?_
    cases b with
    | true => exact ⟨fun σ2 H2 => ∃ m' G2, m' < m ∧ W m' σ2 G2 H2, fun σ2 H2 ⟨m', G2, a, b⟩ => ⟨m', a, G2, b⟩, h1 rfl G1 H1 g1 _ fun m' σ2 G2 H2 a b => ⟨m', G2, a, b⟩⟩
    | false => exact h2 rfl G1 H1 g1⟩
/-- -1 -/
theorem d_neg1 : EvD (tUn (rU fun i => .int (-i)) (tC (.int 1))) σ G (.int (-1)) := .mk fun G1 H1 e1 e2 Q q => ⟨1, rfl, q _ G1 H1 (Grow.refl e2) (.int _)⟩
end
theorem eqv_nil (ds : List PyData) : (!PyData.eqv (.list ds) (.list [])) = !ds.isEmpty := by
  cases ds with
  | nil => simp [PyData.eqv, PyData.eqvAll]
  | cons d ds => simp [PyData.eqv, PyData.eqvAll]
section
variable {σ : VSt} {G G3 H : Hp} {t : TT} {D : Ends} {tu tw tz : TS}
/-- a test that reads lists which may change -/
theorem s_whenF {b : Bool} (h : EvB t σ G3 b) (e : Ex G G3) (e3 : Ex G3 H) (h1 : b = true → ∀ H2, Grow M0 G H G H2 → tu D σ H2) (h2 : b = false → ∀ H2, Grow M0 G H G H2 → D.nx σ H2) : tIfS t tu tNext D σ H :=
  h G3 H (Ex.refl G3) e3 _ fun G5 H5 g => by
    cases b with
    | true => exact h1 rfl H5 (g.drop e e3)
    | false => exact h2 rfl H5 (g.drop e e3)
theorem q_whenF {b : Bool} (h : EvB t σ G3 b) (e : Ex G G3) (e3 : Ex G3 H) (h1 : b = true → ∀ H2, Grow M0 G H G H2 → tu { D with nx := tz D } σ H2) (h2 : b = false → ∀ H2, Grow M0 G H G H2 → tz D σ H2) : tSeq (tIfS t tu tNext) tz D σ H :=
  s_whenF (D := { D with nx := tz D }) h e e3 h1 h2
end
theorem q_asgG {σ : VSt} {G H : Hp} {te : TE} {d : PyData} {D : Ends} {tz : TS} {g : TG} (h : EvD te σ G d) (e : Ex G H) (k : ∀ v G2 H2, Grow M0 G H G2 H2 → DD G2 v d → g v σ H2 (tz D)) : tSeq (tAsg te g) tz D σ H := h.go e k
end CL
set_option Elab.async false
set_option linter.all false
set_option maxRecDepth 100000
set_option maxHeartbeats 4000000
/-! The texts of rules. -/
namespace CL
open PySem L2 CM
abbrev S (l : List Nat) : Str := SX.S l
def dig (c : Nat) : Str := S [48 + c]
def kdL (k : Bool) : List Nat := if k then [115, 101, 116, 116, 108, 101, 115] else [119, 105, 116, 104, 105, 110]
theorem kd_S (k : Bool) : kd k = S (kdL k) := by cases k <;> decide +kernel
def lineL (r : Ru) : List Nat := [48 + r.2.1] ++ (32 :: (kdL r.1 ++ (32 :: [48 + r.2.2])))
def lineOf (r : Ru) : Str := S (lineL r)
def textL (rs : List Ru) : List Nat := rs.flatMap fun r => lineL r ++ [10]
def textOf (rs : List Ru) : Str := S (textL rs)
theorem dig_num {a : Nat} (h : a < 10) : Str.ofString (toString ((a : Nat) : Int)) = dig a := by
  refine TL.ext_tl ?_
  rw [TL.tl_num, TL.numL_lt h]
  rfl
theorem line_cat (r : Ru) (ha : r.2.1 < 10) (hb : r.2.2 < 10) : ((((Str.ofString (toString ((r.2.1 : Nat) : Int)) ++ (" " : Str)) ++ kd r.1) ++ (" " : Str)) ++ Str.ofString (toString ((r.2.2 : Nat) : Int))) ++ ("\n" : Str) = S (lineL r ++ [10]) := by
  have e1 : (" " : Str) = S [32] := by decide +kernel
  have e2 : ("\n" : Str) = S [10] := by decide +kernel
  rw [dig_num ha, dig_num hb, kd_S, e1, e2]
  unfold dig
  rw [SX.S_cat, SX.S_cat, SX.S_cat, SX.S_cat, SX.S_cat]
  congr 1
  unfold lineL
  simp
theorem kdL_len (k : Bool) : (kdL k).length ≤ 7 := by cases k <;> decide
theorem lineL_len (r : Ru) : (lineL r).length ≤ 11 := by
  unfold lineL
  have := kdL_len r.1
  simp only [List.length_append, List.length_cons, List.length_nil]
  omega
theorem lineL_no10 (r : Ru) : 10 ∉ lineL r := by
  unfold lineL
  intro h
  simp only [List.mem_append, List.mem_cons, List.not_mem_nil, or_false] at h
  rcases h with h | h | h | h | h
  · omega
  · omega
  · revert h; cases r.1 <;> decide
  · omega
  · omega
theorem textL_len : ∀ rs : List Ru, (textL rs).length ≤ 12 * rs.length
  | [] => by simp [textL]
  | r :: rs => by
    have h1 := lineL_len r
    have h2 := textL_len rs
    have e : (textL (r :: rs)).length = (lineL r ++ [10]).length + (textL rs).length := by
      unfold textL
      rw [List.flatMap_cons, List.length_append]
    rw [e, List.length_append, List.length_cons, List.length_cons, List.length_nil]
    omega
theorem joinL_nil : ∀ l : List (List Nat), TL.joinL [] l = l.flatten
  | [] => rfl
  | [p] => by show p = [p].flatten; simp
  | p :: q :: r => by
    show p ++ ([] ++ TL.joinL [] (q :: r)) = (p :: q :: r).flatten
    rw [joinL_nil (q :: r), List.nil_append, List.flatten_cons (L := q :: r)]
theorem join_lines (rs : List Ru) : Txt.join ("" : Str) (rs.map fun r => S (lineL r ++ [10])) = textOf rs := by
  have e0 : ("" : Str) = S [] := by decide +kernel
  have e : (rs.map fun r => S (lineL r ++ [10])) = (rs.map fun r => lineL r ++ [10]).map S := by rw [List.map_map]; rfl
  rw [e0, e]
  show Txt.join (SX.S []) ((rs.map fun r => lineL r ++ [10]).map SX.S) = _
  rw [SX.join_S, joinL_nil]
  unfold textOf textL
  rw [List.flatMap_def]
theorem joinL_lines : ∀ rs : List Ru, TL.joinL [10] (rs.map lineL ++ [[]]) = textL rs
  | [] => rfl
  | [r] => by
    show lineL r ++ ([10] ++ []) = textL [r]
    simp [textL]
  | r :: q :: rs => by
    have ih := joinL_lines (q :: rs)
    show lineL r ++ ([10] ++ TL.joinL [10] ((q :: rs).map lineL ++ [[]])) = textL (r :: q :: rs)
    rw [ih]
    unfold textL
    rw [List.flatMap_cons (x := r) (xs := q :: rs), List.append_assoc]
theorem split_text (rs : List Ru) : Txt.split (textOf rs) ("\n" : Str) = rs.map lineOf ++ [S []] := by
  have e2 : ("\n" : Str) = S [10] := by decide +kernel
  rw [e2]
  show Txt.split (SX.S (textL rs)) (SX.S [10]) = _
  rw [SX.split_S (by simp) (by decide), ← joinL_lines rs, TL.spl_join (by simp) (fun p hp => by
    rcases List.mem_append.mp hp with q | q
    · obtain ⟨r, _, rfl⟩ := List.mem_map.mp q
      exact lineL_no10 r
    · rw [List.mem_singleton] at q
      rw [q]; simp), List.map_append, List.map_map]
  rfl
theorem split_line (r : Ru) (ha : r.2.1 < 6) (hb : r.2.2 < 6) : Txt.split (lineOf r) (" " : Str) = [dig r.2.1, kd r.1, dig r.2.2] := by
  have e2 : (" " : Str) = S [32] := by decide +kernel
  rw [e2]
  show Txt.split (SX.S (lineL r)) (SX.S [32]) = _
  have ej : lineL r = TL.joinL [32] [[48 + r.2.1], kdL r.1, [48 + r.2.2]] := rfl
  rw [SX.split_S (by simp) (by decide), ej, TL.spl_join (by simp) (fun p hp => by
    simp only [List.mem_cons, List.not_mem_nil, or_false] at hp
    rcases hp with rfl | rfl | rfl
    · simp; omega
    · cases r.1 <;> decide
    · simp; omega), kd_S]
  rfl
theorem find_dig {c : Nat} (h : c < 6) : Txt.find ("012345" : Str) (dig c) = (c : Int) := by
  have : c = 0 ∨ c = 1 ∨ c = 2 ∨ c = 3 ∨ c = 4 ∨ c = 5 := by omega
  rcases this with rfl | rfl | rfl | rfl | rfl | rfl <;> decide +kernel
theorem ends_text {rs : List Ru} (h : rs ≠ []) : Txt.endswith (textOf rs) ("\n" : Str) = true := by
  have e2 : ("\n" : Str) = S [10] := by decide +kernel
  have hl : ∃ l, textL rs = l ++ [10] := by
    obtain ⟨init, last, rfl⟩ : ∃ init last, rs = init ++ [last] := ⟨rs.dropLast, rs.getLast h, (List.dropLast_concat_getLast h).symm⟩
    refine ⟨textL init ++ lineL last, ?_⟩
    unfold textL
    rw [List.flatMap_append, List.flatMap_singleton, List.append_assoc]
  obtain ⟨l, hl⟩ := hl
  unfold Txt.endswith
  rw [e2]
  have hlen : (textOf rs).length = l.length + 1 := by
    show (SX.S (textL rs)).length = _
    rw [SX.S_len, hl, List.length_append, List.length_singleton]
  have hlen2 : (S [10]).length = 1 := rfl
  rw [hlen, hlen2, Bool.and_eq_true]
  refine ⟨decide_eq_true (by omega), ?_⟩
  rw [StrLaws.subAt_eq]
  show (((textL rs).drop (l.length + 1 - 1)).take 1 == [10]) = true
  rw [hl]
  have : l.length + 1 - 1 = l.length := by omega
  rw [this, List.drop_left]
  rfl
theorem text_nil {rs : List Ru} : textOf rs = ("" : Str) ↔ rs = [] := by
  have e0 : ("" : Str) = S [] := by decide +kernel
  rw [e0]
  constructor
  · intro h
    have z : textL rs = [] := SX.S_inj h
    cases rs with
    | nil => rfl
    | cons r rs =>
      unfold textL at z
      rw [List.flatMap_cons] at z
      simp at z
  · rintro rfl; rfl
theorem textL_inj_len (rs : List Ru) : (textOf rs).length ≤ 12 * rs.length := by
  show (SX.S (textL rs)).length ≤ _
  rw [SX.S_len]; exact textL_len rs
theorem ok_S {l : List Nat} (h : ∀ c ∈ l, c < 1114112) : PyData.strOk (S l) = true := by
  unfold PyData.strOk
  rw [← Array.all_toList]
  exact List.all_eq_true.mpr fun c hc => decide_eq_true (h c hc)
theorem kdL_lt (k : Bool) : ∀ c ∈ kdL k, c < 200 := by cases k <;> decide
theorem lineL_lt (r : Ru) (ha : r.2.1 < 6) (hb : r.2.2 < 6) : ∀ c ∈ lineL r, c < 200 := fun c hc => by
  unfold lineL at hc
  simp only [List.mem_append, List.mem_cons, List.not_mem_nil, or_false] at hc
  rcases hc with h | h | h | h | h
  · omega
  · omega
  · exact kdL_lt _ c h
  · omega
  · omega
theorem text_ok {rs : List Ru} (h : ∀ r ∈ rs, r.2.1 < 6 ∧ r.2.2 < 6) : PyData.strOk (textOf rs) = true := ok_S fun c hc => by
  unfold textL at hc
  obtain ⟨r, hr, hc⟩ := List.mem_flatMap.mp hc
  rcases List.mem_append.mp hc with q | q
  · have := lineL_lt r (h r hr).1 (h r hr).2 c q
    omega
  · rw [List.mem_singleton] at q; omega
end CL
set_option Elab.async false
set_option linter.all false
set_option maxRecDepth 100000
set_option maxHeartbeats 4000000
namespace CL
open PySem L2 CM
/-! ### more readings -/
def tyN : PyData → String
  | .none => "NoneType" | .bool _ => "bool" | .int _ => "int" | .str _ => "str" | .list _ => "list" | .tuple _ => "tuple" | .dict _ => "dict"
theorem DD.ty {K : PySem.W.Frag} {G H : Hp} {v : V} {d : PyData} (h : DD G v d) (e : Ex G H) : TyX K H v (.type (tyN d)) := by
  cases d with
  | none => rw [h.eqN]; exact .base .non
  | bool b => rw [h.eqB]; exact .base (.bl b)
  | int i => rw [h.eqI]; exact .base (.int i)
  | str x => rw [h.eqS]; exact .base (.str x)
  | list ds =>
    obtain ⟨a, xs, rfl, hp, _⟩ := h.eqL
    exact .base (.lst (e _ _ hp))
  | tuple ds =>
    obtain ⟨a, xs, rfl, hp, _⟩ := h.eqT
    rcases up_rd hp e with q | ⟨o, q⟩
    · exact .base (.tup q)
    · exact .fTuple q
  | dict kvs => cases h
section
variable {σ : VSt} {G G' H : Hp} {ta tb tc te to : TE} {t u : TT} {d e z : PyData} {r r' : R2} {K : PySem.W.Frag}
theorem d_isi (T : String) {n : String} {b : Bool} (h : EvD ta σ G d) (hc : EvV tc σ G (.ty n)) (hk : kitB T n = some b) (ht : tyN d = T := by rfl) : EvD (tCB (rIsi K) (tCons ta (tCons tc tNil))) σ G (.bool b) := .mk fun G1 H1 e1 e2 Q q =>
  h.go' e1 e2 fun v G2 H2 g2 hv => hc G2 H2 (e1.trans g2.g) g2.gh _ fun G3 H3 g3 =>
    ⟨v, .ty n, .type (tyN d), .type n, b, rfl, .ty n, (hv.up g3.g).ty g3.gh, kit_ty (ht ▸ hk), q _ G3 H3 (g2.trans g3) (.bl _)⟩
theorem c_lenS {x : Str} (h : x.length ≤ 100000) : RcD (rLen K) [.str x] (.int (x.length : Int)) := fun G1 H1 e1 xs hx Q q => by
  obtain ⟨v, r, rfl, hv, hr⟩ := hx.inv
  obtain rfl := hr.inv0
  obtain rfl := hv.eqS
  exact ⟨_, _, rfl, ⟨Evl.sz_of h, rfl⟩, q _ G1 H1 (Grow.refl e1) (.int _)⟩
theorem c_lenL {ds : List PyData} : RcD (rLen K) [.list ds] (.int (ds.length : Int)) := fun G1 H1 e1 xs hx Q q => by
  obtain ⟨v, r, rfl, hv, hr⟩ := hx.inv
  obtain rfl := hr.inv0
  obtain ⟨a, ys, rfl, hp, hy⟩ := hv.eqL
  rw [← hy.length] at q
  exact ⟨_, _, rfl, .inl ⟨ys, .inl (.inl (e1 _ _ hp)), rfl⟩, q _ G1 H1 (Grow.refl e1) (.int _)⟩
theorem c_lenT {ds : List PyData} : RcD (rLen K) [.tuple ds] (.int (ds.length : Int)) := fun G1 H1 e1 xs hx Q q => by
  obtain ⟨v, r, rfl, hv, hr⟩ := hx.inv
  obtain rfl := hr.inv0
  obtain ⟨a, ys, rfl, hp, hy⟩ := hv.eqT
  rw [← hy.length] at q
  exact ⟨_, _, rfl, .inr ⟨ys, .inl (up_rd hp e1), rfl⟩, q _ G1 H1 (Grow.refl e1) (.int _)⟩
theorem c_all {bs : List Bool} : RcD (rAll K) [.list (bs.map PyData.bool)] (.bool (bs.all id)) := fun G1 H1 e1 xs hx Q q => by
  obtain ⟨v, r, rfl, hv, hr⟩ := hx.inv
  obtain rfl := hr.inv0
  obtain ⟨a, ys, rfl, hp, hy⟩ := hv.eqL
  have e := hy.bls
  subst e
  exact ⟨a, bs, rfl, .inl (.inl (e1 _ _ hp)), q _ G1 H1 (Grow.refl e1) (.bl _)⟩
theorem c_strInt {n : Nat} (h : n < 1000) : RcD (fun xs H Q => ∃ i, xs = [V.int i] ∧ i.natAbs.log2 < 1920 ∧ Q (V.str (toString i)) H) [.int (n : Int)] (.str (Str.ofString (toString (n : Int)))) := fun G1 H1 e1 xs hx Q q => by
  obtain ⟨v, r, rfl, hv, hr⟩ := hx.inv
  obtain rfl := hr.inv0
  obtain rfl := hv.eqI
  refine ⟨_, rfl, ?_, q _ G1 H1 (Grow.refl e1) (.str _)⟩
  show n.log2 < 1920
  by_cases h0 : n = 0
  · subst h0; decide
  · exact (Nat.log2_lt h0).mpr (Nat.lt_trans h (by decide))
theorem d_chain {a b : Bool} {d1 d2 d3 : PyData} (h1 : EvD ta σ G d1) (h2 : EvD tb σ G d2) (hr : RvD r d1 d2 (.bool a)) (h3 : a = true → EvD tc σ G d3) (hr' : a = true → RvD r' d2 d3 (.bool b)) : EvD (tChain r r' ta tb tc) σ G (.bool (a && b)) := .mk fun G1 H1 e1 e2 Q q =>
  h1.go' e1 e2 fun x G2 H2 g2 hx => h2.go' (e1.trans g2.g) g2.gh fun y G3 H3 g3 hy => hr G3 H3 g3.gh x y (hx.up g3.g) hy _ fun zv G4 H4 g4 hz => ⟨a, hz.eqB, by
    cases a with
    | true =>
      rw [if_pos rfl]
      exact (h3 rfl).go' ((e1.trans g2.g).trans (g3.g.trans g4.g)) g4.gh fun w G5 H5 g5 hw => hr' rfl G5 H5 g5.gh y w (hy.up (g4.g.trans g5.g)) hw Q fun v G6 H6 g6 hv => q v G6 H6 (((((g2.trans g3).trans g4).trans g5)).trans g6) hv
    | false =>
      rw [if_neg (by decide)]
      exact q _ G4 H4 ((g2.trans g3).trans g4) (.bl _)⟩
/-! count -/
theorem d_cntL {ds : List PyData} (h : EvD to σ G (.list ds)) (he : EvD te σ G d) (h1 : PyData.plainAll ds = true) (h2 : d.plain = true) (h3 : d.depth ≤ 8) : EvD (tCnt K to te) σ G (.int ((ds.countP fun z => PyData.eqv z d : Nat) : Int)) := .mk fun G1 H1 e1 e2 Q q =>
  h.go' e1 e2 fun v G2 H2 g2 hv => by
    obtain ⟨a, xs, rfl, hp, hx⟩ := hv.eqL
    exact ⟨a, ds, d, rfl, .inl ⟨⟨xs, g2.gh _ _ hp⟩, he.go' (e1.trans g2.g) g2.gh fun y G3 H3 g3 hy => ⟨DD.dp (g3.g.trans g3.gh) _ _ hv, DD.dp g3.gh _ _ hy, h1, h2, h3, q _ G3 H3 (g2.trans g3) (.int _)⟩⟩⟩
/-- .. of a tuple that a star has made -/
theorem d_cntT {a : Addr} {ob : Obj} {xs : List V} {ds : List PyData} (h : EvV to σ G (.ref a)) (hf : G a = some (.frz ob (.tup xs))) (ho : ob.dict = none) (hx : DDs G xs ds) (he : EvD te σ G d) (h1 : PyData.plainAll ds = true) (h2 : d.plain = true) (h3 : d.depth ≤ 8) :
    EvD (tCnt K to te) σ G (.int ((ds.countP fun z => PyData.eqv z d : Nat) : Int)) := .mk fun G1 H1 e1 e2 Q q =>
  h G1 H1 e1 e2 _ fun G2 H2 g2 => by
    have f2 : G2 a = some (.frz ob (.tup xs)) := g2.g _ _ (e1 _ _ hf)
    have hv : DD G2 (.ref a) (.tuple ds) := .tup (.inr ⟨ob, f2⟩) (hx.up (e1.trans g2.g))
    exact ⟨a, ds, d, rfl, .inr ⟨⟨ob, xs, g2.gh _ _ f2, ho⟩, he.go' (e1.trans g2.g) g2.gh fun y G3 H3 g3 hy => ⟨DD.dp (g3.g.trans g3.gh) _ _ hv, DD.dp g3.gh _ _ hy, h1, h2, h3, q _ G3 H3 (g2.trans g3) (.int _)⟩⟩⟩
theorem count_RU (r : Ru) : ∀ rs : List Ru, (rs.map RU).countP (fun z => PyData.eqv z (RU r)) = rs.count r
  | [] => rfl
  | x :: rs => by
    rw [List.map_cons, List.countP_cons, List.count_cons, count_RU r rs, eqv_RU]
    by_cases e : x = r
    · subst e; simp
    · rw [decide_eq_false e]
      have : (x == r) = false := beq_eq_false_iff_ne.mpr e
      rw [this]
theorem count_one {rs : List Ru} {r : Ru} (h : rs.Nodup) (hm : r ∈ rs) : rs.count r = 1 := by
  have h1 := List.nodup_iff_count.mp h r
  have h2 := List.count_pos_iff.mpr hm
  omega
/-! texts -/
abbrev rSplit : V → List V → Hp → VK → Prop := fun x xs H Q => ∃ a b, x = .str a ∧ xs = [.str b] ∧ (b.length == 0) = false ∧ a.length + 2 ≤ sizeLine ∧ rNewStrs (Txt.split a b) H Q
theorem m_split {a b : Str} (h : EvD te σ G (.str a)) (hb : EvD ta σ G (.str b)) (h0 : (b.length == 0) = false) (hl : a.length ≤ 90000) : EvM (tM1 rSplit te ta) σ G ((Txt.split a b).map PyData.str) := fun G1 H1 e1 e2 Q q =>
  h.go' e1 e2 fun v G2 H2 g2 hv => by
    obtain rfl := hv.eqS
    refine ⟨⟨a, rfl⟩, hb.go' (e1.trans g2.g) g2.gh fun y G3 H3 g3 hy => ?_⟩
    obtain rfl := hy.eqS
    exact ⟨a, b, rfl, rfl, h0, Evl.sz_of (by omega), fun p hp => q p _ _ ((g2.trans g3).there p hp) ((g2.trans g3).trans (Grow.mnew g3.gh hp)) (ML.new g3.gh hp (DDs.ofStrs _ _))⟩
theorem m_find {a b : Str} : RmD (fun x xs H Q => ∃ a b, x = V.str a ∧ xs = [V.str b] ∧ Q (V.int (Txt.find a b)) H) (.str a) [.str b] (.int (Txt.find a b)) := fun G1 H1 e1 x xs hx hxs Q q => by
  obtain ⟨v, r, rfl, hv, hr⟩ := hxs.inv
  obtain rfl := hr.inv0
  exact ⟨a, b, hx.eqS, by rw [hv.eqS], q _ G1 H1 (Grow.refl e1) (.int _)⟩
theorem m_ends {a b : Str} : RmD (fun x xs H Q => ∃ a b, x = V.str a ∧ xs = [V.str b] ∧ Q (V.bl (Txt.endswith a b)) H) (.str a) [.str b] (.bool (Txt.endswith a b)) := fun G1 H1 e1 x xs hx hxs Q q => by
  obtain ⟨v, r, rfl, hv, hr⟩ := hxs.inv
  obtain rfl := hr.inv0
  exact ⟨a, b, hx.eqS, by rw [hv.eqS], q _ G1 H1 (Grow.refl e1) (.bl _)⟩
theorem m_join {K : PySem.W.Frag} {a : Str} {ys : List Str} (hl : (ys.map (·.length)).sum + ys.length * a.length ≤ 100000) : RmD (fun x xs H Q => ∃ a p, ∃ ys : List Str, x = V.str a ∧ xs = [V.ref p] ∧ (SqL K H p (ys.map V.str) ∨ SqT K H p (ys.map V.str)) ∧
    (ys.map (·.length)).sum + ys.length * a.length ≤ 16777216 ∧ Q (V.str (Txt.join a ys)) H) (.str a) [.list (ys.map PyData.str)] (.str (Txt.join a ys)) := fun G1 H1 e1 x xs hx hxs Q q => by
  obtain ⟨v, r, rfl, hv, hr⟩ := hxs.inv
  obtain rfl := hr.inv0
  obtain ⟨p, zs, rfl, hp, hz⟩ := hv.eqL
  have e := hz.strs
  subst e
  exact ⟨a, p, ys, hx.eqS, rfl, .inl (.inl (.inl (e1 _ _ hp))), by omega, q _ G1 H1 (Grow.refl e1) (.str _)⟩
/-! fields -/
theorem v_fld {p C dx : Addr} {fs : List (Str × V)} {f : Str} {v : V} (h : EvV ta σ G (.ref p)) (hp : G p = some (.ins C dx fs)) (c : Cls K C) (n : NoAttr K C f) (l : fs.lookup f = some v) : EvV (tFld K ta f) σ G v := fun G1 H1 e1 e2 Q q =>
  h G1 H1 e1 e2 _ fun G2 H2 g2 => ⟨p, C, dx, fs, v, rfl, g2.gh _ _ (g2.g _ _ (e1 _ _ hp)), c, n, l, q G2 H2 g2⟩
end
/-! ### the object that holds rules -/
theorem kept_ne : ¬ (("columns" : Str) = "kept") := by decide +kernel
def flds (w : Nat) (t : Addr) : List (Str × V) := putF "kept" (.ref t) (putF "columns" (.int (w : Int)) [])
theorem flds_columns (w : Nat) (t : Addr) : (flds w t).lookup ("columns" : Str) = some (.int (w : Int)) := by
  unfold flds
  rw [lookup_putF, if_neg kept_ne, lookup_putF, if_pos rfl]
theorem flds_kept (w : Nat) (t : Addr) : (flds w t).lookup ("kept" : Str) = some (.ref t) := by
  unfold flds
  rw [lookup_putF, if_pos rfl]
structure RO (C : Addr) (G : Hp) (v : V) (w : Nat) (rs : List Ru) : Prop where
  ex : ∃ p dx t, v = .ref p ∧ G p = some (.ins C dx (flds w t)) ∧ DD G (.ref t) (.tuple (rs.map RU))
theorem RO.up {C : Addr} {G G' : Hp} {v : V} {w : Nat} {rs : List Ru} (h : RO C G v w rs) (e : Ex G G') : RO C G' v w rs := by
  obtain ⟨p, dx, t, a, b, c⟩ := h.ex
  exact ⟨p, dx, t, a, e _ _ b, c.up e⟩
/-- def f(a, .., *v) of the text -/
theorem Fun.okS {P : Program} {w : World} {K : PySem.W.Frag} {mg : Str → Option Value} {base : Heap} {x qual : Str} {st : Stmt} {f : Addr} {fd : FuncData} {N ps : List Str} {pv : Str} {k : Nat} {sp : Sp} (F : Fun K x qual st f fd) (S : FnScope N (ps ++ [pv]) (defScope st))
    (hb : ∀ (kV doc pm : Value) (an : Option Addr) (cdv ct : Value) (us rest : List Value), us.length = ps.length → bindArgs (PySem.W.fnOf x qual (defArgs st) (defBody st) (defScope st) .none kV doc pm an cdv ct) ⟨us ++ rest, []⟩ = (newTuple rest >>= fun t => pure (ps.zip us ++ [(pv, t)])))
    (hbody : ∀ (cdv : Value) (A : Around) (outer : List Env) (s : Shared) (H : Hp) (vs : List V) (Q : VK) (E : XK), Room k (A.deeper (PyProof.Rows.envOfC qual (defScope st) s.heap.objs.size f cdv)) → sp vs H Q E →
      ∃ t, PSs (cxOf CX0 P w K mg base N qual (defScope st) f cdv A outer s H E).nox (defBody st) t ∧ t { nx := fun _ H' => Q .non H', rt := Q } (start N vs) H) :
    FnR P w K mg base CX0 (k + 1) f (fun vs H Q E => ∃ ws rest, vs = ws ++ rest ∧ ws.length = ps.length ∧ rest.length ≤ sizeLine ∧ ∀ p ob, H p = Option.none → ob.dict = Option.none → sp (ws ++ [V.ref p]) (upd H p (.frz ob (.tup rest))) Q E) := by
  obtain ⟨oc, od, kV, doc, pm, an, cdv, ct, osl, rfl, lk, hcd⟩ := F.ex
  refine fn_starF lk hcd S StX.cxUp_none (hb kV doc pm an cdv ct) fun A outer s H vs Q E hr hsp => ?_
  obtain ⟨t, h, q⟩ := hbody cdv A outer s H vs Q E hr hsp
  exact ⟨t, h.nox, q⟩
theorem lay_plain {n : Nat} {d : PyData} (h : Lay n d) : d.plain = true := PyData.plain_of_canLay0 d h.1
theorem plain_RUs (rs : List Ru) : PyData.plainAll (rs.map RU) = true := PyData.plainAll_of_canLay0 _ (Lay.all (n := 1) fun d hd => by
  obtain ⟨r, _, rfl⟩ := List.mem_map.mp hd
  exact lay_RU r).1
end CL
set_option Elab.async false
set_option linter.all false
set_option maxRecDepth 100000
set_option maxHeartbeats 4000000
namespace CP
open PySem L2 CL CM
/-! ### the text by places -/
def top (i : Nat) : Stmt := PySem.Challenge.pw_countcycles_k62_which_rules_follow.main.body.getD i (.Pass ⟨0, 0, 0, 0⟩)
abbrev s_shortest : Stmt := top 11
abbrev s_leads : Stmt := top 12
abbrev s_downs : Stmt := top 13
abbrev s_ring_of : Stmt := top 14
abbrev s_arrows : Stmt := top 15
abbrev s_follows : Stmt := top 16
abbrev s_is_integer : Stmt := top 19
abbrev s_is_between : Stmt := top 20
abbrev s_need_width : Stmt := top 21
abbrev s_is_column : Stmt := top 22
abbrev s_is_rule : Stmt := top 23
abbrev s_need_rule : Stmt := top 24
abbrev s_are_rules : Stmt := top 25
abbrev s_column_of : Stmt := top 26
abbrev s_rule_of : Stmt := top 27
abbrev s_Rules_init : Stmt := inClass (top 28) 0
abbrev s_Rules_read : Stmt := inClass (top 28) 1
abbrev s_Rules_text : Stmt := inClass (top 28) 2
abbrev s_Rules_width : Stmt := inClass (top 28) 3
abbrev s_Rules_rules : Stmt := inClass (top 28) 4
abbrev s_Rules_call : Stmt := inClass (top 28) 5
abbrev s_Rules_contains : Stmt := inClass (top 28) 6
abbrev s_Rules_len : Stmt := inClass (top 28) 7
abbrev s_Rules_iter : Stmt := inClass (top 28) 8
abbrev s_Rules_add : Stmt := inClass (top 28) 9
abbrev s_Rules_eq : Stmt := inClass (top 28) 10
abbrev s_Rules_repr : Stmt := inClass (top 28) 11
abbrev s_need_rules : Stmt := top 29
abbrev s_law_cell : Stmt := top 31
abbrev s_law_source : Stmt := top 32
abbrev s_law_draw : Stmt := top 33
abbrev s_law_choose : Stmt := top 34
abbrev s_law_is_equal : Stmt := top 35
abbrev s_law_mixed : Stmt := top 36
abbrev s_law_step : Stmt := top 37
abbrev s_law_rules : Stmt := top 38
abbrev s_law_list : Stmt := top 39
abbrev s_law_all : Stmt := top 40
abbrev s_law_reach : Stmt := top 41
abbrev s_law_downs : Stmt := top 42
abbrev s_law_arrows : Stmt := top 43
abbrev s_law_due : Stmt := top 44
abbrev s_law_nearly : Stmt := top 45
abbrev s_law_is_right : Stmt := top 46
abbrev s_law : Stmt := top 47
/-- tokens and addresses of what the top has made -/
structure Ads where
  tS : Tok
  tW : Tok
  tM : Tok
  aR : Addr
/-- what is asked of the module's names -/
structure Txt (Z : Ads) (K : PySem.W.Frag) (mg : Str → Option Value) : Prop where
  c_SETTLES : mg "SETTLES" = some (.str "settles" Z.tS)
  c_WITHIN : mg "WITHIN" = some (.str "within" Z.tW)
  c_MOST_WIDTH : mg "MOST_WIDTH" = some (.int 6 Z.tM)
  b_len : mg "len" = none
  b_range : mg "range" = none
  b_sorted : mg "sorted" = none
  b_set : mg "set" = none
  b_all : mg "all" = none
  b_isinstance : mg "isinstance" = none
  b_int : mg "int" = none
  b_bool : mg "bool" = none
  b_str : mg "str" = none
  b_tuple : mg "tuple" = none
  b_max : mg "max" = none
  b_min : mg "min" = none
  b_repr : mg "repr" = none
  b_list : mg "list" = none
  b_enumerate : mg "enumerate" = none
section
variable {P : Program} {w : World} {K : PySem.W.Frag} {mg : Str → Option Value} {base : Heap} {Z : Ads}
/-! ### shortest -/
def GoodPs (ps : List (Nat × Nat)) : Prop := ps.length ≤ 1000 ∧ ∀ p ∈ ps, p.1 < 6 ∧ p.2 < 6
def R_shortest : List PyData → (PyData → Prop) → Prop := fun ds S => ∃ (ps : List (Nat × Nat)) (a b : Nat), ds = [.list (ps.map P2), I1 a, I1 b] ∧ GoodPs ps ∧ a < 6 ∧ b < 6 ∧
  S = fun d => (Reach ps a b ∧ ∃ w : Wk, d = WK w) ∨ (¬ Reach ps a b ∧ d = .none)
theorem sc_shortest : FnScope ["pairs", "a", "b", "walks", "had", "walk", "longer", "column", "start", "end"] ["pairs", "a", "b"] (defScope s_shortest) := ⟨rfl, rfl, rfl, by decide +kernel, rfl, by decide +kernel, by decide +kernel⟩
theorem ok_shortest {f : Addr} {fd : FuncData} (F : Fun K "shortest" "shortest" s_shortest f fd) (T : Txt Z K mg) : FnOk P w K mg base CX0 1 f fd ["pairs", "a", "b"] (spR R_shortest) := by
  refine F.ok sc_shortest (fun vs H Q E h => spR_len (n := 3) (fun ds S ⟨ps, a, b, e, _⟩ => by rw [e]; rfl) h) (fun cdv A outer s H vs Q E hr h => ?_)
  obtain ⟨G, ds, S, ⟨ps, a, b, rfl, gp, ha, hb, rfl⟩, eG, hd, k⟩ := h
  obtain ⟨v1, r, rfl, h1, hd⟩ := hd.inv
  obtain ⟨v2, r, rfl, h2, hd⟩ := hd.inv
  obtain ⟨v3, r, rfl, h3, hd⟩ := hd.inv
  obtain rfl := hd.inv0
  obtain rfl := h2.eqI
  obtain rfl := h3.eqI
  have nd := sc_shortest.nd
  refine ⟨_, (pss_cons (ps_par (i := 3) (j := 4) rfl nd rfl rfl (by decide) rfl rfl (pa_cons (pe_lst (pa_cons (pe_tup (pa_cons (pv 1) pa_nil)) pa_nil)) (pa_cons (pe_lst (pa_cons (pv 1) pa_nil)) pa_nil)) (by rfl))
    (pss_cons (ps_while PassesOwn.never (pt_cmpR (neDK K (h64 hr)) (pv 3) (pe_lst pa_nil) (nomark _))
    (pss_cons (ps_for PassesOwn.never rfl (piListK K (pv 3)) (pgN 5 nd)
    (pss_one (ps_if (pt_cmpR (eqDK K (h64 hr)) (pe_ix (ix_seqK K) (pv 5) (pe_un un_neg pe_int) (fun _ _ => rfl)) (pv 2) (nomark _)) (pss_one (ps_ret (pv 5))) pss_nil)))
    (pss_cons (ps_set (i := 6) nd rfl (by first | exact Or.inl rfl | exact Or.inr rfl) (pe_lst pa_nil))
    (pss_cons (ps_for PassesOwn.never rfl (piListK K (pv 3)) (pgN 5 nd)
    (pss_one (ps_for PassesOwn.never rfl (piListK K (pe_callB (crSortedK w rfl) (by rfl) T.b_sorted (by decide +kernel) (pa_cons (pe_callTy (crSetK K w rfl) (by rfl) T.b_set (by decide +kernel) (pa_cons (pe_lc (own := [("start", 8), ("end", 9)]) (by rfl) nd (piListK K (pv 0)) (blkOk_by (own := [("start", 8), ("end", 9)]) (N := ["pairs", "a", "b", "walks", "had", "walk", "longer", "column", "start", "end"]) (sc := (defScope s_shortest)) (by decide +kernel)) (fun _ _ _ _ _ => (pgTupK K (n := 2) (pgs_cons (pgN 8 nd) (pgs_cons (pgN 9 nd) pgs_nil)))) (fun _ _ _ _ _ => pts_one (pt_cmpR (eqDK K (h64 hr)) (pv 8) (pe_ix (ix_seqK K) (pv 5) (pe_un un_neg pe_int) (fun _ _ => rfl)) (nomark _))) (fun _ _ _ _ _ => (pv 9))) pa_nil)) pa_nil))) (pgN 7 nd)
    (pss_one (ps_if (pt_cmpR (notInDK K (h65 hr)) (pv 7) (pv 4) (by rfl)) (pss_cons (ps_expr (pe_bm PySem.F.plainAttrs_list PySem.F.slot_list_append PySem.F.type_list_append mt_append (pv 4) (pa_cons (pv 7) pa_nil)))
    (pss_one (ps_expr (pe_bm PySem.F.plainAttrs_list PySem.F.slot_list_append PySem.F.type_list_append mt_append (pv 6) (pa_cons (pe_op (catTK K) (pv 5) (pe_tup (pa_cons (pv 7) pa_nil))) pa_nil))))) pss_nil)))))
    (pss_one (ps_set (i := 3) nd rfl (by first | exact Or.inl rfl | exact Or.inr rfl) (pv 6)))))))
    (pss_one (ps_ret pe_non)))), ?_⟩
  show tSeq _ _ _ [some v1, some (.int a), some (.int b), none, none, none, none, none, none, none] H
  -- walks, had = [(a,)], [a]
  refine q_parDM (d := .list ([([], a)].map WK)) (ds := [a].map I1) (d_lst (a_cons (d_tup (a_cons (d_var rfl (.int _)) a_nil)) a_nil)) (m_lst (a_cons (d_var rfl (.int _)) a_nil)) eG fun vw hd G1 H1 hn g1 hw mh => ?_
  have hlay : ∀ ws : List Wk, SeqAt.shaped (.list (ws.map WK)) = true := fun ws => (lay_map lay_WK ws).shaped
  -- while walks != []
  refine q_while (fun m σ' G' H' => ∃ vw o5 o6 o7 had walks, σ' = [some v1, some (.int a), some (.int b), some vw, some (.ref hd), o5, o6, o7, none, none] ∧ Grow M0 G H G' H' ∧ DD G' vw (.list (walks.map WK)) ∧ ML G' H' hd (had.map I1) ∧
    MI ps a b walks (had, []) ∧ m = 2 * (6 - had.length) + (if walks = [] then 0 else 1)) _ ⟨vw, none, none, none, [a], [([], a)], rfl, g1, hw, mh, MI.start ha, rfl⟩ ?_
  rintro m σ' G' H' ⟨vw, o5, o6, o7, had, walks, rfl, g, hw, mh, M, rfl⟩
  refine ⟨g.gh, _, b_test (d_op (d_var rfl hw) (d_lst a_nil) (r_ne (hlay walks) rfl)), ?_, ?_⟩
  · intro hne G2 H2 g2 N hN
    have hne' : walks ≠ [] := fun z => by rw [z] at hne; exact absurd hne (by rw [eqv_nil]; decide)
    have g3 := g.trans g2
    -- for walk in walks: if walk[-1] == b: return walk
    refine q_forL (enc := WK) (xs := walks) (d_var rfl (hw.up g2.g)) g2.gh (fun i σ' G' H' => ∃ o5, σ' = [some v1, some (.int a), some (.int b), some vw, some (.ref hd), o5, o6, o7, none, none] ∧ Grow M0 G H G' H' ∧ ML G' H' hd (had.map I1) ∧
      ∀ w ∈ walks.take i, w.2 ≠ b) (fun G1 H1 g1 => ⟨o5, rfl, g3.trans g1, (mh.grow0 g2).grow0 g1, fun w hw => by simp at hw⟩) ?_ ?_
    · rintro i wk v σ' G' H' hi eG' eH' hv ⟨o5, rfl, g', mh', hno⟩ Nx hNx
      show tIfS _ _ _ _ [some v1, some (.int a), some (.int b), some vw, some (.ref hd), some v, o6, o7, none, none] H'
      refine s_when (b_test (d_op (d_op (d_var rfl hv) d_neg1 (r_ixT (atI_last1 _ _ _))) (d_var rfl (.int _)) (r_eq rfl rfl))) eH' ?_ ?_
      · intro hb G5 H5 g5
        rw [eqv_I1] at hb
        exact s_ret (d_var rfl (hv.up g5.g)) g5.gh fun v G6 H6 g6 hv6 => k v (WK wk) G6 H6 (.inl ⟨M.hit (List.mem_of_getElem? hi) (of_decide_eq_true hb), wk, rfl⟩) ((g'.trans g5).trans g6) hv6
      · intro hb G5 H5 g5
        rw [eqv_I1] at hb
        refine hNx _ G5 H5 g5.g g5.gh ⟨some v, rfl, g'.trans g5, mh'.grow0 g5, fun w hw => ?_⟩
        rw [List.take_add_one, hi] at hw
        rcases List.mem_append.mp hw with q | q
        · exact hno w q
        · have e : w = wk := by simpa using q
          rw [e]; exact of_decide_eq_false hb
    · rintro σ' G4 H4 eG4 eH4 ⟨o5, rfl, g4, mh4, hno⟩
      rw [List.take_length] at hno
      -- longer = []
      refine q_asgM (m_lst a_nil) eH4 fun pl G5 H5 hpl g5 ml5 => ?_
      have hl0 : H pl = none := g4.there pl hpl
      have hne_l : pl ≠ hd := fun z => mh4.there (z ▸ hpl)
      have hn0 : H hd = none := hn
      -- for walk in walks
      refine q_forL (enc := WK) (xs := walks) (d_var rfl (hw.up (g2.g.trans (eG4.trans g5.g)))) g5.gh (fun i σ' G' H' => ∃ o5 o7, σ' = [some v1, some (.int a), some (.int b), some vw, some (.ref hd), o5, some (.ref pl), o7, none, none] ∧ Grow M0 G H G' H' ∧
        ML G' H' hd (((walks.take i).foldl (level ps) (had, [])).1.map I1) ∧ ML G' H' pl (((walks.take i).foldl (level ps) (had, [])).2.map WK)) (fun G1 H1 g1 => ⟨o5, o7, rfl, (g4.trans g5).trans g1, (mh4.grow0 g5).grow0 g1, ml5.grow0 g1⟩) ?_ ?_
      · rintro i wk v σ' G' H' hi eG' eH' hv ⟨o5, o7, rfl, g', mh', ml'⟩ Nx hNx
        have Mi : MI ps a b (walks.drop i) ((walks.take i).foldl (level ps) (had, [])) := levels_MI gp.2 _ _ _ (by rw [List.take_append_drop]; exact M) fun w hw => hno w (List.mem_of_mem_take hw)
        have ei : walks.drop i = wk :: walks.drop (i + 1) := by
          obtain ⟨h1, h2⟩ := List.getElem?_eq_some_iff.mp hi
          rw [List.drop_eq_getElem_cons h1, h2]
        rw [ei] at Mi
        have es : (walks.take (i + 1)).foldl (level ps) (had, []) = level ps ((walks.take i).foldl (level ps) (had, [])) wk := by
          rw [List.take_add_one, hi, List.foldl_append]; rfl
        rw [es] at hNx
        generalize hst : (walks.take i).foldl (level ps) (had, []) = st at Mi mh' ml' hNx
        show tFor _ _ _ _ [some v1, some (.int a), some (.int b), some vw, some (.ref hd), some v, some (.ref pl), o7, none, none] H'
        -- for column in sorted(set(..))
        have hsrc : EvM (tCB (rSortedSet w) (tCons (tCB (CL.rSetL K w) (tCons (tLc (iList K (tVar 0)) (gTup K 2 (gCons (gName 8) (gCons (gName 9) gNil))) (tTest (tOp (rEqD K) (tVar 8) (tOp (rIx K) (tVar 5) (tUn (rU fun i => V.int (-i)) (tC (V.int 1)))))) (tVar 9) [8, 9]) tNil)) tNil))
            [some v1, some (.int a), some (.int b), some vw, some (.ref hd), some v, some (.ref pl), o7, none, none] G' ((ends ps wk.2).map I1) := by
          have hlc := m_lcL (K := K) (te := tVar 9) (tt := tTest (tOp (rEqD K) (tVar 8) (tOp (rIx K) (tVar 5) (tUn (rU fun i => V.int (-i)) (tC (V.int 1)))))) (g := gTup K 2 (gCons (gName 8) (gCons (gName 9) gNil))) (vs := [8, 9])
            (enc := P2) (xs := ps) (σ := [some v1, some (.int a), some (.int b), some vw, some (.ref hd), some v, some (.ref pl), o7, none, none]) (G := G') (tl := tVar 0) (fun p => decide (p.1 = wk.2)) (fun p => .int ((p.2 : Nat) : Int)) (d_var rfl (h1.up g'.g)) (by have := gp.1; omega)
            (fun x u G1 H1 hx e1 e2 hu Q q => g_tup2 hu e2 fun u1 u2 k1 k2 => q _ rfl ((b_test (d_op (d_var rfl k1) (d_op (d_var rfl (hv.up e1)) d_neg1 (r_ixT (atI_last1 _ _ _))) (r_eq rfl rfl))).is (eqv_I1 _ _)) fun _ => d_var rfl k2)
          have hns : ((ps.filter fun p => decide (p.1 = wk.2)).map fun p => PyData.int ((p.2 : Nat) : Int)) = ((ps.filter fun p => decide (p.1 = wk.2)).map fun p => ((p.2 : Nat) : Int)).map PyData.int := by rw [List.map_map]; rfl
          rw [hns] at hlc
          have hss := d_sortset (w := w) (K := K) (m := 6) hlc.toD (hm6 := by decide) (hl := by rw [List.length_map]; have := List.length_filter_le (fun p => decide (p.1 = wk.2)) ps; have := gp.1; omega) (hb := fun c hc => by
            obtain ⟨p, hp, rfl⟩ := List.mem_map.mp hc
            have := (gp.2 p (List.mem_filter.mp hp).1).2
            omega)
          have ee : ((List.range 6).filter fun i => decide (((i : Nat) : Int) ∈ ((ps.filter fun p => decide (p.1 = wk.2)).map fun p => ((p.2 : Nat) : Int)))) = ends ps wk.2 := by
            unfold ends
            refine List.filter_congr fun i _ => ?_
            rw [decide_eq_decide]
            constructor
            · intro hm
              obtain ⟨p, hp, e⟩ := List.mem_map.mp hm
              obtain ⟨p1, p2⟩ := List.mem_filter.mp hp
              have e1 : p.1 = wk.2 := of_decide_eq_true p2
              have e2 : p.2 = i := by omega
              rw [← e1, ← e2]; exact p1
            · intro hm
              exact List.mem_map.mpr ⟨(wk.2, i), List.mem_filter.mpr ⟨hm, decide_eq_true rfl⟩, rfl⟩
          rw [ee] at hss
          exact hss
        have hE : ∀ c ∈ ends ps wk.2, c < 6 ∧ (wk.2, c) ∈ ps := fun c hc => mem_ends.mp hc
        refine s_forL (enc := I1) (xs := ends ps wk.2) hsrc.toD eH' (fun j σ' G'' H'' => ∃ o7, σ' = [some v1, some (.int a), some (.int b), some vw, some (.ref hd), some v, some (.ref pl), o7, none, none] ∧ Grow M0 G H G'' H'' ∧
          ML G'' H'' hd ((((ends ps wk.2).take j).foldl (visit wk) st).1.map I1) ∧ ML G'' H'' pl ((((ends ps wk.2).take j).foldl (visit wk) st).2.map WK)) (fun G1 H1 g1 => ⟨o7, rfl, g'.trans g1, mh'.grow0 g1, ml'.grow0 g1⟩) ?_ ?_
        · rintro j c vc σ' G7 H7 hj eG7 eH7 hvc ⟨o7, rfl, g7, mh7, ml7⟩ Nx2 hNx2
          obtain rfl := hvc.eqI
          have Mj : MI ps a b (wk :: walks.drop (i + 1)) (((ends ps wk.2).take j).foldl (visit wk) st) := fold_MI _ _ Mi fun x hx => hE x (List.mem_of_mem_take hx)
          have ej : ((ends ps wk.2).take (j + 1)).foldl (visit wk) st = visit wk (((ends ps wk.2).take j).foldl (visit wk) st) c := by
            rw [List.take_add_one, hj, List.foldl_append]; rfl
          rw [ej] at hNx2
          generalize hst2 : ((ends ps wk.2).take j).foldl (visit wk) st = st2 at Mj mh7 ml7 hNx2
          show tIfS _ _ _ _ [some v1, some (.int a), some (.int b), some vw, some (.ref hd), some v, some (.ref pl), some (.int c), none, none] H7
          obtain ⟨Gf, ef1, ef2, hdf⟩ := mh7.frz eH7
          have six := Mj.six
          have lls := Mj.ll
          refine s_whenF (b_test (d_op (d_var rfl (.int _)) (d_var rfl hdf) (r_notin (shaped_int _) (lay_map (fun n => lay_int _) _).shaped))) ef1 ef2 ?_ ?_
          · intro hb H8 g8
            have hb' : c ∉ st2.1 := by
              rw [any_eqv eqv_I1] at hb
              intro z
              rw [decide_eq_true z] at hb
              exact absurd hb (by decide)
            refine q_app (v_var rfl) (mh7.grow0 g8) (d_var rfl (.int _)) g8.gh (by rw [List.length_map]; omega) fun G9 H9 g9 mh9 => ?_
            have ml9 := (ml7.grow0 g8).grow g9 hne_l
            have g79 := (g7.trans g8).priv g9 hn0
            refine s_app (v_var rfl) ml9 (d_op (d_var rfl (hv.up (eG7.trans (g8.g.trans g9.g)))) (d_tup (a_cons (d_var rfl (.int _)) a_nil)) (r_catT (by simp) (by simp) ?_)) g9.gh (by rw [List.length_map]; omega) fun G10 H10 g10 ml10 => ?_
            · have := (Mj.w1 wk List.mem_cons_self).2
              simp only [List.length_map, List.length_append, List.length_singleton]
              omega
            · refine hNx2 _ G10 H10 (g8.g.trans (g9.g.trans g10.g)) g10.gh ⟨_, rfl, g79.priv g10 hl0, ?_, ?_⟩
              · have z := mh9.grow g10 (fun z => hne_l z.symm)
                unfold visit
                rw [if_neg hb']
                show ML G10 H10 hd ((st2.1 ++ [c]).map I1)
                rw [List.map_append]
                exact z
              · unfold visit
                rw [if_neg hb']
                show ML G10 H10 pl ((st2.2 ++ [(wk.1 ++ [wk.2], c)]).map WK)
                rw [List.map_append]
                have e : [(wk.1 ++ [wk.2], c)].map WK = [PyData.tuple ((wk.1 ++ [wk.2]).map I1 ++ [PyData.int c])] := by
                  show [PyData.tuple ((wk.1 ++ [wk.2] ++ [c]).map I1)] = _
                  rw [List.map_append (l₁ := wk.1 ++ [wk.2])]; rfl
                rw [e]
                exact ml10
          · intro hb H8 g8
            have hb' : c ∈ st2.1 := by
              rw [any_eqv eqv_I1] at hb
              by_cases z : c ∈ st2.1
              · exact z
              · rw [decide_eq_false z] at hb
                exact absurd hb (by decide)
            refine hNx2 _ G7 H8 (Ex.refl _) g8.gh ⟨_, rfl, g7.trans g8, ?_, ?_⟩
            · unfold visit; rw [if_pos hb']; exact mh7.grow0 g8
            · unfold visit; rw [if_pos hb']; exact ml7.grow0 g8
        · rintro σ' G7 H7 eG7 eH7 ⟨o7, rfl, g7, mh7, ml7⟩
          rw [List.take_length] at mh7 ml7
          exact hNx _ G7 H7 eG7 eH7 ⟨some v, o7, rfl, g7, mh7, ml7⟩
      · rintro σ' G6 H6 eG6 eH6 ⟨o5, o7, rfl, g6, mh6, ml6⟩
        rw [List.take_length] at mh6 ml6
        -- walks = longer
        have Mf : MI ps a b [] (walks.foldl (level ps) (had, [])) := levels_MI gp.2 _ _ _ (by rw [List.append_nil]; exact M) hno
        have hlen := levels_len ps walks (had, [])
        obtain ⟨G7, g7, e67, hl7, oth⟩ := ml6.fin g6 hl0
        have mh7 := oth hd _ (fun z => hne_l z.symm) mh6
        refine s_asg (d_var rfl hl7) g7.gh fun v G8 H8 g8 hv8 => hN _ _ G8 H8 ?_ ⟨v, o5, some (.ref pl), o7, _, _, rfl, g7.trans g8, hv8, mh7.grow0 g8, Mf.turn, rfl⟩
        have six := Mf.six
        rw [if_neg hne']
        by_cases hz : (walks.foldl (level ps) (had, [])).2 = []
        · rw [if_pos hz]
          rw [hz] at hlen
          simp only [List.length_nil] at hlen
          omega
        · rw [if_neg hz]
          have := List.length_pos_iff.mpr hz
          simp only [List.length_nil] at hlen
          omega
  · intro hno G2 H2 g2
    have e : walks = [] := by
      rw [eqv_nil] at hno
      cases walks with
      | nil => rfl
      | cons x xs => simp at hno
    subst e
    exact s_ret d_non g2.gh fun v G3 H3 g3 hv => k v .none G3 H3 (.inr ⟨M.none, rfl⟩) ((g.trans g2).trans g3) hv
/-! ### leads, downs, ring_of, arrows, follows -/
abbrev SQ : List PyData → PyData := PyData.tuple
def GoodRs (rs : List Ru) : Prop := rs.length ≤ 200 ∧ ∀ r ∈ rs, r.2.1 < 6 ∧ r.2.2 < 6
theorem good_downs {rs : List Ru} (h : GoodRs rs) : GoodPs (downsM rs) := by
  refine ⟨by unfold downsM; rw [List.length_map]; have := h.1; omega, fun p hp => ?_⟩
  obtain ⟨r, hr, rfl⟩ := List.mem_map.mp hp
  have := h.2 r hr
  unfold downM
  split
  · exact this
  · exact ⟨this.2, this.1⟩
theorem good_arrows {rs : List Ru} (h : GoodRs rs) (k : Bool) : GoodPs (arrowsM rs k) := by
  refine ⟨by unfold arrowsM; have := flat_len rs k rs; have := h.1; omega, fun p hp => ?_⟩
  obtain ⟨r, hr, hp⟩ := List.mem_flatMap.mp hp
  have := h.2 r hr
  rcases arrow1_mem hp with e | e
  · rw [e]; exact this
  · rw [e]; exact ⟨this.2, this.1⟩
def R_leads : List PyData → (PyData → Prop) → Prop := fun ds S => ∃ (ps : List (Nat × Nat)) (a b : Nat), ds = [.list (ps.map P2), I1 a, I1 b] ∧ GoodPs ps ∧ a < 6 ∧ b < 6 ∧ S = fun d => d = .bool (reachB ps a b)
/-- e is not None, e an answer of shortest -/
theorem d_notnone {σ : VSt} {G : Hp} {te : TE} {ps : List (Nat × Nat)} {a b : Nat} (h : EvS te σ G fun d => (Reach ps a b ∧ ∃ w : Wk, d = WK w) ∨ (¬ Reach ps a b ∧ d = .none)) :
    EvD (tOp (fun x y H Q => y = .non ∧ Q (.bl (!decide (x = .non))) H) te (tC .non)) σ G (.bool (reachB ps a b)) := .mk fun G1 H1 e1 e2 Q q =>
  h G1 H1 e1 e2 _ fun v d G2 H2 hS g2 hv => ⟨rfl, by
    rcases hS with ⟨hr, w, rfl⟩ | ⟨hr, rfl⟩
    · obtain ⟨p, xs, rfl, _⟩ := hv.eqT
      rw [reachB_iff.mpr hr] at q
      exact q _ G2 H2 g2 (.bl true)
    · obtain rfl := hv.eqN
      rw [reachB_not.mpr hr] at q
      exact q _ G2 H2 g2 (.bl false)⟩
theorem sc_leads : FnScope ["pairs", "a", "b"] ["pairs", "a", "b"] (defScope s_leads) := ⟨rfl, rfl, rfl, by decide +kernel, rfl, by decide +kernel, by decide +kernel⟩
theorem ok_leads {f : Addr} {fd : FuncData} (F : Fun K "leads" "leads" s_leads f fd) (T : Txt Z K mg) (F_shortest : Fn1 P w K mg base "shortest" 1 (spR R_shortest)) : FnOk P w K mg base CX0 2 f fd ["pairs", "a", "b"] (spR R_leads) := by
  refine F.ok sc_leads (fun vs H Q E h => spR_len (n := 3) (fun ds S ⟨ps, a, b, e, _⟩ => by rw [e]; rfl) h) (fun cdv A outer s H vs Q E hr h => ?_)
  obtain ⟨G, ds, S, ⟨ps, a, b, rfl, gp, ha, hb, rfl⟩, eG, hd, k⟩ := h
  obtain ⟨v1, r, rfl, h1, hd⟩ := hd.inv
  obtain ⟨v2, r, rfl, h2, hd⟩ := hd.inv
  obtain ⟨v3, r, rfl, h3, hd⟩ := hd.inv
  obtain rfl := hd.inv0
  have nd := sc_leads.nd
  refine ⟨_, (pss_one (ps_ret (pe_cmpR op_notN (pe_fn F_shortest (hr.mono (by decide)) rfl (pa_cons (pv 0) (pa_cons (pv 1) (pa_cons (pv 2) pa_nil)))) pe_non (nomark _)))), ?_⟩
  show tRet _ _ [some v1, some v2, some v3] H
  exact s_ret (d_notnone (s_call (a_cons (d_var rfl h1) (a_cons (d_var rfl h2) (a_cons (d_var rfl h3) a_nil))) ⟨ps, a, b, rfl, gp, ha, hb, rfl⟩)) eG fun v G2 H2 g hv => k v _ G2 H2 rfl g hv
def R_downs : List PyData → (PyData → Prop) → Prop := fun ds S => ∃ (rs : List Ru), ds = [SQ (rs.map RU)] ∧ GoodRs rs ∧ S = fun d => d = .list ((downsM rs).map P2)
theorem sc_downs : FnScope ["rules", "kind", "a", "b"] ["rules"] (defScope s_downs) := ⟨rfl, rfl, rfl, by decide +kernel, rfl, by decide +kernel, by decide +kernel⟩
theorem ok_downs {f : Addr} {fd : FuncData} (F : Fun K "downs" "downs" s_downs f fd) (T : Txt Z K mg) : FnOk P w K mg base CX0 1 f fd ["rules"] (spR R_downs) := by
  refine F.ok sc_downs (fun vs H Q E h => spR_len (n := 1) (fun ds S ⟨rs, e, _⟩ => by rw [e]; rfl) h) (fun cdv A outer s H vs Q E hr h => ?_)
  obtain ⟨G, ds, S, ⟨rs, rfl, gr, rfl⟩, eG, hd, k⟩ := h
  obtain ⟨v1, r, rfl, h1, hd⟩ := hd.inv
  obtain rfl := hd.inv0
  have nd := sc_downs.nd
  refine ⟨_, (pss_one (ps_ret (pe_lc (own := [("kind", 1), ("a", 2), ("b", 3)]) (by rfl) nd (piTupK K (pv 0)) (blkOk_by (own := [("kind", 1), ("a", 2), ("b", 3)]) (N := ["rules", "kind", "a", "b"]) (sc := (defScope s_downs)) (by decide +kernel)) (fun _ _ _ _ _ => (pgTupK K (n := 3) (pgs_cons (pgN 1 nd) (pgs_cons (pgN 2 nd) (pgs_cons (pgN 3 nd) pgs_nil))))) (fun _ _ _ _ _ => pts_nil) (fun _ _ _ _ _ => (pe_ifExp (pt_cmpR (eqDK K (h64 hr)) (pv 1) (pe_glob (v := .str "settles") rfl T.c_SETTLES ⟨_, rfl⟩) (nomark _)) (pe_tup (pa_cons (pv 2) (pa_cons (pv 3) pa_nil))) (pe_tup (pa_cons (pv 3) (pa_cons (pv 2) pa_nil)))))))), ?_⟩
  show tRet _ _ [some v1, none, none, none] H
  refine s_ret (d := .list ((downsM rs).map P2)) ?_ eG fun v G2 H2 g hv => k v _ G2 H2 rfl g hv
  have z := m_lcT (K := K) (vs := [1, 2, 3]) (enc := RU) (xs := rs) (fun _ => true) (fun r => P2 (downM r)) (d_var (σ := [some v1, none, none, none]) (i := 0) rfl h1) (by have := gr.1; omega)
    (tt := tYes) (g := gTup K 3 (gCons (gName 1) (gCons (gName 2) (gCons (gName 3) gNil)))) (te := tIf (tTest (tOp (rEqD K) (tVar 1) (tC (.str "settles")))) (tTup (tCons (tVar 2) (tCons (tVar 3) tNil))) (tTup (tCons (tVar 3) (tCons (tVar 2) tNil))))
    (fun x u G1 H1 hx e1 e2 hu Q q => g_tup3 hu e2 fun u1 u2 u3 k1 k2 k3 => q _ rfl (fun G1 H1 _ e2 Q q => q G1 H1 (Grow.refl e2)) fun _ => by
      refine (d_if (b_test (d_op (d_var rfl k1) d_str (r_eq (shaped_kd _) (shaped_kd true)))) (fun _ => d_tup (a_cons (d_var rfl k2) (a_cons (d_var rfl k3) a_nil))) fun _ => d_tup (a_cons (d_var rfl k3) (a_cons (d_var rfl k2) a_nil))).is ?_
      obtain ⟨k, a, b⟩ := x
      cases k
      · exact if_neg (by rw [eqv_str]; exact (by decide +kernel : ¬ decide (kd false = kd true) = true))
      · exact if_pos (by rw [eqv_str]; exact (by decide +kernel : decide (kd true = kd true) = true)))
  have e : (rs.filter fun _ => true).map (fun r => P2 (downM r)) = (downsM rs).map P2 := by
    unfold downsM
    rw [List.filter_eq_self.mpr fun _ _ => rfl, List.map_map]; rfl
  rw [e] at z
  exact z.toD
def R_ring : List PyData → (PyData → Prop) → Prop := fun ds S => ∃ (rs : List Ru) (k : Bool) (a b : Nat), ds = [SQ (rs.map RU), .str (kd k), I1 a, I1 b] ∧ GoodRs rs ∧ a < 6 ∧ b < 6 ∧
  S = fun d => (Reach (downsM rs) (if k = true then a else b) (if k = true then b else a) ∧ ∃ w : Wk, d = WK w) ∨ (¬ Reach (downsM rs) (if k = true then a else b) (if k = true then b else a) ∧ d = .none)
theorem sc_ring_of : FnScope ["rules", "kind", "a", "b"] ["rules", "kind", "a", "b"] (defScope s_ring_of) := ⟨rfl, rfl, rfl, by decide +kernel, rfl, by decide +kernel, by decide +kernel⟩
theorem ok_ring_of {f : Addr} {fd : FuncData} (F : Fun K "ring_of" "ring_of" s_ring_of f fd) (T : Txt Z K mg) (F_shortest : Fn1 P w K mg base "shortest" 1 (spR R_shortest)) (F_downs : Fn1 P w K mg base "downs" 1 (spR R_downs)) : FnOk P w K mg base CX0 2 f fd ["rules", "kind", "a", "b"] (spR R_ring) := by
  refine F.ok sc_ring_of (fun vs H Q E h => spR_len (n := 4) (fun ds S ⟨rs, k, a, b, e, _⟩ => by rw [e]; rfl) h) (fun cdv A outer s H vs Q E hr h => ?_)
  obtain ⟨G, ds, S, ⟨rs, kk, a, b, rfl, gr, ha, hb, rfl⟩, eG, hd, k⟩ := h
  obtain ⟨v1, r, rfl, h1, hd⟩ := hd.inv
  obtain ⟨v2, r, rfl, h2, hd⟩ := hd.inv
  obtain ⟨v3, r, rfl, h3, hd⟩ := hd.inv
  obtain ⟨v4, r, rfl, h4, hd⟩ := hd.inv
  obtain rfl := hd.inv0
  have nd := sc_ring_of.nd
  refine ⟨_, (pss_one (ps_ret (pe_ifExp (pt_cmpR (eqDK K (h64 hr)) (pv 1) (pe_glob (v := .str "settles") rfl T.c_SETTLES ⟨_, rfl⟩) (nomark _)) (pe_fn F_shortest (hr.mono (by decide)) rfl (pa_cons (pe_fn F_downs (hr.mono (by decide)) rfl (pa_cons (pv 0) pa_nil)) (pa_cons (pv 2) (pa_cons (pv 3) pa_nil)))) (pe_fn F_shortest (hr.mono (by decide)) rfl (pa_cons (pe_fn F_downs (hr.mono (by decide)) rfl (pa_cons (pv 0) pa_nil)) (pa_cons (pv 3) (pa_cons (pv 2) pa_nil))))))), ?_⟩
  show tRet _ _ [some v1, some v2, some v3, some v4] H
  refine s_retS ?_ eG k
  have hdn : EvD (tCall (spR R_downs) [] E0 (tCons (tVar 0) tNil)) [some v1, some v2, some v3, some v4] G (.list ((downsM rs).map P2)) := d_call (a_cons (d_var rfl h1) a_nil) ⟨rs, rfl, gr, rfl⟩
  refine s_if (b_test (d_op (d_var rfl h2) d_str (r_eq (shaped_kd _) (shaped_kd true)))) (fun hb' => ?_) fun hb' => ?_
  · have e : kk = true := by
      rw [eqv_str] at hb'
      exact kd_inj (of_decide_eq_true hb')
    subst e
    exact s_call (a_cons hdn (a_cons (d_var rfl h3) (a_cons (d_var rfl h4) a_nil))) ⟨_, a, b, rfl, good_downs gr, ha, hb, rfl⟩
  · have e : kk = false := by
      rw [eqv_str] at hb'
      cases kk
      · rfl
      · exact absurd rfl (of_decide_eq_false hb')
    subst e
    exact s_call (a_cons hdn (a_cons (d_var rfl h4) (a_cons (d_var rfl h3) a_nil))) ⟨_, b, a, rfl, good_downs gr, hb, ha, rfl⟩
def R_arrows : List PyData → (PyData → Prop) → Prop := fun ds S => ∃ (rs : List Ru) (k : Bool), ds = [SQ (rs.map RU), .str (kd k)] ∧ GoodRs rs ∧ S = fun d => d = .list ((arrowsM rs k).map P2)
theorem sc_arrows : FnScope ["rules", "kind", "found", "other", "a", "b"] ["rules", "kind"] (defScope s_arrows) := ⟨rfl, rfl, rfl, by decide +kernel, rfl, by decide +kernel, by decide +kernel⟩
theorem ok_arrows {f : Addr} {fd : FuncData} (F : Fun K "arrows" "arrows" s_arrows f fd) (T : Txt Z K mg) (F_ring_of : Fn1 P w K mg base "ring_of" 2 (spR R_ring)) : FnOk P w K mg base CX0 3 f fd ["rules", "kind"] (spR R_arrows) := by
  refine F.ok sc_arrows (fun vs H Q E h => spR_len (n := 2) (fun ds S ⟨rs, k, e, _⟩ => by rw [e]; rfl) h) (fun cdv A outer s H vs Q E hr h => ?_)
  obtain ⟨G, ds, S, ⟨rs, kk, rfl, gr, rfl⟩, eG, hd, k⟩ := h
  obtain ⟨v1, r, rfl, h1, hd⟩ := hd.inv
  obtain ⟨v2, r, rfl, h2, hd⟩ := hd.inv
  obtain rfl := hd.inv0
  obtain rfl := h2.eqS
  have nd := sc_arrows.nd
  refine ⟨_, (pss_cons (ps_set (i := 2) nd rfl (by first | exact Or.inl rfl | exact Or.inr rfl) (pe_lst pa_nil))
    (pss_cons (ps_for PassesOwn.never rfl (piTupK K (pv 0)) (pgTupK K (n := 3) (pgs_cons (pgN 3 nd) (pgs_cons (pgN 4 nd) (pgs_cons (pgN 5 nd) pgs_nil))))
    (pss_one (ps_if (pt_cmpR (eqDK K (h64 hr)) (pv 3) (pv 1) (nomark _)) (pss_cons (ps_expr (pe_bm PySem.F.plainAttrs_list PySem.F.slot_list_append PySem.F.type_list_append mt_append (pv 2) (pa_cons (pe_tup (pa_cons (pv 4) (pa_cons (pv 5) pa_nil))) pa_nil)))
    (pss_one (ps_if (pt_cmpR op_notN (pe_fn F_ring_of (hr.mono (by decide)) rfl (pa_cons (pv 0) (pa_cons (pv 1) (pa_cons (pv 5) (pa_cons (pv 4) pa_nil))))) pe_non (nomark _)) (pss_one (ps_expr (pe_bm PySem.F.plainAttrs_list PySem.F.slot_list_append PySem.F.type_list_append mt_append (pv 2) (pa_cons (pe_tup (pa_cons (pv 5) (pa_cons (pv 4) pa_nil))) pa_nil)))) pss_nil))) pss_nil)))
    (pss_one (ps_ret (pv 2))))), ?_⟩
  show tSeq _ _ _ [some v1, some (.str (kd kk)), none, none, none, none] H
  refine q_asgM (m_lst a_nil) eG fun pf G1 H1 hn g1 mf => ?_
  refine q_forT (enc := RU) (xs := rs) (d_var rfl (h1.up g1.g)) g1.gh (fun i σ' G' H' => ∃ o3 o4 o5, σ' = [some v1, some (.str (kd kk)), some (.ref pf), o3, o4, o5] ∧ Grow M0 G H G' H' ∧ ML G' H' pf (((rs.take i).flatMap (arrow1 rs kk)).map P2))
    (fun G2 H2 g2 => ⟨none, none, none, rfl, g1.trans g2, mf.grow0 g2⟩) ?_ ?_
  · rintro i r v σ' G2 H2 hi eG2 eH2 hv ⟨o3, o4, o5, rfl, g2, m2⟩ Nx hNx
    have hrr := gr.2 r (List.mem_of_getElem? hi)
    have hrl := gr.1
    have hlen : (((rs.take i).flatMap (arrow1 rs kk)).map P2).length ≤ 400 := by
      rw [List.length_map]
      have := flat_len rs kk (rs.take i)
      have := List.length_take_le i rs
      have := List.length_take_le' i rs
      omega
    have es : (rs.take (i + 1)).flatMap (arrow1 rs kk) = (rs.take i).flatMap (arrow1 rs kk) ++ arrow1 rs kk r := by
      rw [List.take_add_one, hi, List.flatMap_append]
      show _ ++ [r].flatMap _ = _
      rw [List.flatMap_singleton]
    rw [es] at hNx
    refine g_tup3 hv eH2 fun u1 u2 u3 k1 k2 k3 => ?_
    show tIfS _ _ _ _ [some v1, some (.str (kd kk)), some (.ref pf), some u1, some u2, some u3] H2
    refine s_when (b_test (d_op (d_var rfl k1) (d_var rfl (.str _)) (r_eq (shaped_kd _) (shaped_kd _)))) eH2 ?_ ?_
    · intro hb G3 H3 g3
      have ek : r.1 = kk := kd_inj (by rw [eqv_str] at hb; exact of_decide_eq_true hb)
      refine q_app (v_var rfl) (m2.grow0 g3) (d := P2 (r.2.1, r.2.2)) (d_tup (a_cons (d_var rfl (k2.up g3.g)) (a_cons (d_var rfl (k3.up g3.g)) a_nil))) g3.gh (by omega) fun G4 H4 g4 m4 => ?_
      have g34 := (g2.trans g3).priv g4 hn
      have eG4 := g3.g.trans g4.g
      have hring := s_call (E := E0) (R := R_ring) (a_cons (d_var (σ := [some v1, some (.str (kd kk)), some (.ref pf), some u1, some u2, some u3]) (i := 0) rfl (h1.up (g2.g.trans eG4))) (a_cons (d_var (i := 1) rfl (.str (kd kk))) (a_cons (d_var (i := 5) rfl (k3.up eG4)) (a_cons (d_var (i := 4) rfl (k2.up eG4)) a_nil))))
        ⟨rs, kk, r.2.2, r.2.1, rfl, gr, hrr.2, hrr.1, rfl⟩
      refine s_when (b_test (d_notnone hring)) g4.gh ?_ ?_
      · intro hb2 G5 H5 g5
        refine s_app (v_var rfl) (m4.grow0 g5) (d := P2 (r.2.2, r.2.1)) (d_tup (a_cons (d_var rfl (k3.up (eG4.trans g5.g))) (a_cons (d_var rfl (k2.up (eG4.trans g5.g))) a_nil))) g5.gh (by rw [List.length_append]; simp only [List.length_cons, List.length_nil]; omega) fun G6 H6 g6 m6 => ?_
        refine hNx _ G6 H6 (eG4.trans (g5.g.trans g6.g)) g6.gh ⟨_, _, _, rfl, (g34.trans g5).priv g6 hn, ?_⟩
        have e1 : arrow1 rs kk r = [(r.2.1, r.2.2), (r.2.2, r.2.1)] := by
          unfold arrow1
          rw [if_pos ek, if_pos (show backB rs kk r = true from hb2)]
        rw [e1, List.map_append]
        rw [List.append_assoc] at m6
        exact m6
      · intro hb2 G5 H5 g5
        refine hNx _ G5 H5 (eG4.trans g5.g) g5.gh ⟨_, _, _, rfl, g34.trans g5, ?_⟩
        have e1 : arrow1 rs kk r = [(r.2.1, r.2.2)] := by
          unfold arrow1
          rw [if_pos ek, if_neg (by rw [show backB rs kk r = false from hb2]; decide)]
        rw [e1, List.map_append]
        exact m4.grow0 g5
    · intro hb G3 H3 g3
      have ek : ¬ r.1 = kk := fun z => by
        rw [eqv_str, z] at hb
        exact absurd rfl (of_decide_eq_false hb)
      refine hNx _ G3 H3 g3.g g3.gh ⟨_, _, _, rfl, g2.trans g3, ?_⟩
      have e1 : arrow1 rs kk r = [] := by
        unfold arrow1
        rw [if_neg ek]
      rw [e1, List.append_nil]
      exact m2.grow0 g3
  · rintro σ' G2 H2 eG2 eH2 ⟨o3, o4, o5, rfl, g2, m2⟩
    rw [List.take_length] at m2
    obtain ⟨G3, g3, _, hd3, _⟩ := m2.fin g2 hn
    exact s_ret (d_var rfl hd3) g3.gh fun v G4 H4 g4 hv => k v _ G4 H4 rfl (g3.trans g4) hv
def R_follows : List PyData → (PyData → Prop) → Prop := fun ds S => ∃ (rs : List Ru) (r : Ru), ds = [SQ (rs.map RU), RU r] ∧ GoodRs rs ∧ r.2.1 < 6 ∧ r.2.2 < 6 ∧ S = fun d => d = .bool (followsM rs r)
theorem sc_follows : FnScope ["rules", "rule", "kind", "a", "b"] ["rules", "rule"] (defScope s_follows) := ⟨rfl, rfl, rfl, by decide +kernel, rfl, by decide +kernel, by decide +kernel⟩
theorem ok_follows {f : Addr} {fd : FuncData} (F : Fun K "follows" "follows" s_follows f fd) (T : Txt Z K mg) (F_leads : Fn1 P w K mg base "leads" 2 (spR R_leads)) (F_arrows : Fn1 P w K mg base "arrows" 3 (spR R_arrows)) : FnOk P w K mg base CX0 4 f fd ["rules", "rule"] (spR R_follows) := by
  refine F.ok sc_follows (fun vs H Q E h => spR_len (n := 2) (fun ds S ⟨rs, r, e, _⟩ => by rw [e]; rfl) h) (fun cdv A outer s H vs Q E hr h => ?_)
  obtain ⟨G, ds, S, ⟨rs, ru, rfl, gr, ha, hb, rfl⟩, eG, hd, k⟩ := h
  obtain ⟨v1, r, rfl, h1, hd⟩ := hd.inv
  obtain ⟨v2, r, rfl, h2, hd⟩ := hd.inv
  obtain rfl := hd.inv0
  have nd := sc_follows.nd
  refine ⟨_, (pss_cons (ps_asg (pv 1) (pgTupK K (n := 3) (pgs_cons (pgN 2 nd) (pgs_cons (pgN 3 nd) (pgs_cons (pgN 4 nd) pgs_nil)))))
    (pss_one (ps_ret (pe_fn F_leads (hr.mono (by decide)) rfl (pa_cons (pe_fn F_arrows (hr.mono (by decide)) rfl (pa_cons (pv 0) (pa_cons (pv 2) pa_nil))) (pa_cons (pv 3) (pa_cons (pv 4) pa_nil))))))), ?_⟩
  show tSeq _ _ _ [some v1, some v2, none, none, none] H
  refine q_asgG (d_var rfl h2) eG fun v G1 H1 g1 hv => ?_
  refine g_tup3 hv g1.gh fun u1 u2 u3 k1 k2 k3 => ?_
  show tRet _ _ [some v1, some v2, some u1, some u2, some u3] H1
  have harr := d_call (E := E0) (R := R_arrows) (a_cons (d_var (σ := [some v1, some v2, some u1, some u2, some u3]) (i := 0) rfl (h1.up g1.g)) (a_cons (d_var (i := 2) rfl k1) a_nil)) ⟨rs, ru.1, rfl, gr, rfl⟩
  exact s_ret (d_call (a_cons harr (a_cons (d_var rfl k2) (a_cons (d_var rfl k3) a_nil))) ⟨_, _, _, rfl, good_arrows gr _, ha, hb, rfl⟩) g1.gh fun v G2 H2 g hv => k v _ G2 H2 rfl (g1.trans g) hv
end
end CP
set_option Elab.async false
set_option linter.all false
set_option maxRecDepth 100000
set_option maxHeartbeats 4000000
namespace CP
open PySem L2 CL CM
section
variable {P : Program} {w : World} {K : PySem.W.Frag} {mg : Str → Option Value} {base : Heap} {Z : Ads}
def validR (n : Nat) (r : Ru) : Prop := r.2.1 < n ∧ r.2.2 < n ∧ r.2.1 ≠ r.2.2
/-- one argument list of data, one answer -/
def R_one (f : List PyData → Option PyData) : List PyData → (PyData → Prop) → Prop := fun ds S => ∃ d, f ds = some d ∧ S = fun x => x = d
/-! ### is_integer, is_between, need_width, is_column -/
def R_isint : List PyData → (PyData → Prop) → Prop := fun ds S => ∃ i : Int, ds = [.int i] ∧ S = fun d => d = .bool true
theorem sc_is_integer : FnScope ["thing"] ["thing"] (defScope s_is_integer) := ⟨rfl, rfl, rfl, by decide +kernel, rfl, by decide +kernel, by decide +kernel⟩
theorem ok_is_integer {f : Addr} {fd : FuncData} (F : Fun K "is_integer" "is_integer" s_is_integer f fd) (T : Txt Z K mg) : FnOk P w K mg base CX0 1 f fd ["thing"] (spR R_isint) := by
  refine F.ok sc_is_integer (fun vs H Q E h => spR_len (n := 1) (fun ds S ⟨i, e, _⟩ => by rw [e]; rfl) h) (fun cdv A outer s H vs Q E hr h => ?_)
  obtain ⟨G, ds, S, ⟨i, rfl, rfl⟩, eG, hd, k⟩ := h
  obtain ⟨v1, r, rfl, h1, hd⟩ := hd.inv
  obtain rfl := hd.inv0
  have nd := sc_is_integer.nd
  refine ⟨_, (pss_one (ps_ret (pe_and (pe_callB (crIsiK K) (by rfl) T.b_isinstance (by decide +kernel) (pa_cons (pv 0) (pa_cons (pe_bltn (v := .ty "int") (u := Value.type "int") rfl T.b_int (by decide +kernel) rfl) pa_nil))) (pe_one (pe_not (pe_callB (crIsiK K) (by rfl) T.b_isinstance (by decide +kernel) (pa_cons (pv 0) (pa_cons (pe_bltn (v := .ty "bool") (u := Value.type "bool") rfl T.b_bool (by decide +kernel) rfl) pa_nil)))))))), ?_⟩
  show tRet _ _ [some v1] H
  exact s_ret (d_andV (a := true) (b := true) (d_isi "int" (d_var rfl h1) v_c (by decide +kernel)) fun _ => d_notV (a := false) (d_isi "int" (d_var rfl h1) v_c (by decide +kernel))) eG fun v G2 H2 g hv => k v _ G2 H2 rfl g hv
def R_betw : List PyData → (PyData → Prop) → Prop := fun ds S => ∃ i lo hi : Int, ds = [.int i, .int lo, .int hi] ∧ S = fun d => d = .bool (decide (lo ≤ i) && decide (i ≤ hi))
theorem sc_is_between : FnScope ["thing", "low", "high"] ["thing", "low", "high"] (defScope s_is_between) := ⟨rfl, rfl, rfl, by decide +kernel, rfl, by decide +kernel, by decide +kernel⟩
theorem ok_is_between {f : Addr} {fd : FuncData} (F : Fun K "is_between" "is_between" s_is_between f fd) (T : Txt Z K mg) (F_is_integer : Fn1 P w K mg base "is_integer" 1 (spR R_isint)) : FnOk P w K mg base CX0 2 f fd ["thing", "low", "high"] (spR R_betw) := by
  refine F.ok sc_is_between (fun vs H Q E h => spR_len (n := 3) (fun ds S ⟨i, lo, hi, e, _⟩ => by rw [e]; rfl) h) (fun cdv A outer s H vs Q E hr h => ?_)
  obtain ⟨G, ds, S, ⟨i, lo, hi, rfl, rfl⟩, eG, hd, k⟩ := h
  obtain ⟨v1, r, rfl, h1, hd⟩ := hd.inv
  obtain ⟨v2, r, rfl, h2, hd⟩ := hd.inv
  obtain ⟨v3, r, rfl, h3, hd⟩ := hd.inv
  obtain rfl := hd.inv0
  have nd := sc_is_between.nd
  refine ⟨_, (pss_one (ps_ret (pe_and (pe_fn F_is_integer (hr.mono (by decide)) rfl (pa_cons (pv 0) pa_nil)) (pe_one (pe_chain op_le op_le (pv 1) (pv 0) (pv 2)))))), ?_⟩
  show tRet _ _ [some v1, some v2, some v3] H
  refine s_ret (d := .bool (true && (decide (lo ≤ i) && decide (i ≤ hi)))) ?_ eG fun v G2 H2 g hv => k v _ G2 H2 rfl g hv
  exact d_andV (a := true) (d_call (a_cons (d_var rfl h1) a_nil) ⟨i, rfl, rfl⟩) fun _ => d_chain (d_var rfl h2) (d_var rfl h1) r_B0 (fun _ => d_var rfl h3) fun _ => r_B0
def R_needw : List PyData → (PyData → Prop) → Prop := fun ds S => ∃ n : Nat, ds = [I1 n] ∧ 1 ≤ n ∧ n ≤ 6 ∧ S = fun d => d = .none
theorem sc_need_width : FnScope ["thing"] ["thing"] (defScope s_need_width) := ⟨rfl, rfl, rfl, by decide +kernel, rfl, by decide +kernel, by decide +kernel⟩
theorem ok_need_width {f : Addr} {fd : FuncData} (F : Fun K "need_width" "need_width" s_need_width f fd) (T : Txt Z K mg) (F_is_between : Fn1 P w K mg base "is_between" 2 (spR R_betw)) : FnOk P w K mg base CX0 3 f fd ["thing"] (spR R_needw) := by
  refine F.ok sc_need_width (fun vs H Q E h => spR_len (n := 1) (fun ds S ⟨n, e, _⟩ => by rw [e]; rfl) h) (fun cdv A outer s H vs Q E hr h => ?_)
  obtain ⟨G, ds, S, ⟨n, rfl, hn1, hn6, rfl⟩, eG, hd, k⟩ := h
  obtain ⟨v1, r, rfl, h1, hd⟩ := hd.inv
  obtain rfl := hd.inv0
  have nd := sc_need_width.nd
  refine ⟨_, (pss_one (ps_if (pt_not (pt_val (pe_fn F_is_between (hr.mono (by decide)) rfl (pa_cons (pv 0) (pa_cons pe_int (pa_cons (pe_glob (v := .int 6) rfl T.c_MOST_WIDTH ⟨_, rfl⟩) pa_nil)))))) (pss_one ps_never) pss_nil)), ?_⟩
  show tIfS _ _ _ _ [some v1] H
  refine s_when (b := !(decide ((1 : Int) ≤ n) && decide ((n : Int) ≤ 6))) (b_not (b_B (d_call (a_cons (d_var rfl h1) (a_cons d_int (a_cons d_int a_nil))) ⟨n, 1, 6, rfl, rfl⟩))) eG (fun hb => ?_) fun _ G2 H2 g => k .non _ G2 H2 rfl g .non
  rw [decide_eq_true (by omega : (1 : Int) ≤ n), decide_eq_true (by omega : (n : Int) ≤ 6)] at hb
  exact absurd hb (by decide)
def R_col : List PyData → (PyData → Prop) → Prop := fun ds S => ∃ c n : Nat, ds = [I1 c, I1 n] ∧ c < n ∧ S = fun d => d = .bool true
theorem sc_is_column : FnScope ["thing", "width"] ["thing", "width"] (defScope s_is_column) := ⟨rfl, rfl, rfl, by decide +kernel, rfl, by decide +kernel, by decide +kernel⟩
theorem ok_is_column {f : Addr} {fd : FuncData} (F : Fun K "is_column" "is_column" s_is_column f fd) (T : Txt Z K mg) (F_is_between : Fn1 P w K mg base "is_between" 2 (spR R_betw)) : FnOk P w K mg base CX0 3 f fd ["thing", "width"] (spR R_col) := by
  refine F.ok sc_is_column (fun vs H Q E h => spR_len (n := 2) (fun ds S ⟨c, n, e, _⟩ => by rw [e]; rfl) h) (fun cdv A outer s H vs Q E hr h => ?_)
  obtain ⟨G, ds, S, ⟨c, n, rfl, hcn, rfl⟩, eG, hd, k⟩ := h
  obtain ⟨v1, r, rfl, h1, hd⟩ := hd.inv
  obtain ⟨v2, r, rfl, h2, hd⟩ := hd.inv
  obtain rfl := hd.inv0
  have nd := sc_is_column.nd
  refine ⟨_, (pss_one (ps_ret (pe_fn F_is_between (hr.mono (by decide)) rfl (pa_cons (pv 0) (pa_cons pe_int (pa_cons (pe_op op_sub (pv 1) pe_int) pa_nil)))))), ?_⟩
  show tRet _ _ [some v1, some v2] H
  refine s_ret (d := .bool (decide ((0 : Int) ≤ c) && decide ((c : Int) ≤ (n : Int) - 1))) ?_ eG fun v G2 H2 g hv => k v _ G2 H2 (by
    show PyData.bool _ = _
    rw [decide_eq_true (by omega : (0 : Int) ≤ c), decide_eq_true (by omega : (c : Int) ≤ (n : Int) - 1)]; rfl) g hv
  exact d_call (a_cons (d_var rfl h1) (a_cons d_int (a_cons (d_op (d_var rfl h2) d_int r_I0) a_nil))) ⟨c, 0, (n : Int) - 1, rfl, rfl⟩
/-! ### is_rule, need_rule -/
def R_isrule : List PyData → (PyData → Prop) → Prop := fun ds S => ∃ (r : Ru) (n : Nat), ds = [RU r, I1 n] ∧ validR n r ∧ S = fun d => d = .bool true
theorem at0 {α : Type} (a b c : α) : atI [a, b, c] 0 = some a := rfl
theorem at1 {α : Type} (a b c : α) : atI [a, b, c] 1 = some b := rfl
theorem at2 {α : Type} (a b c : α) : atI [a, b, c] 2 = some c := rfl
theorem sc_is_rule : FnScope ["thing", "width"] ["thing", "width"] (defScope s_is_rule) := ⟨rfl, rfl, rfl, by decide +kernel, rfl, by decide +kernel, by decide +kernel⟩
theorem ok_is_rule {f : Addr} {fd : FuncData} (F : Fun K "is_rule" "is_rule" s_is_rule f fd) (T : Txt Z K mg) (F_is_column : Fn1 P w K mg base "is_column" 3 (spR R_col)) : FnOk P w K mg base CX0 4 f fd ["thing", "width"] (spR R_isrule) := by
  refine F.ok sc_is_rule (fun vs H Q E h => spR_len (n := 2) (fun ds S ⟨c, n, e, _⟩ => by rw [e]; rfl) h) (fun cdv A outer s H vs Q E hr h => ?_)
  obtain ⟨G, ds, S, ⟨ru, n, rfl, ⟨ha, hb, hab⟩, rfl⟩, eG, hd, k⟩ := h
  obtain ⟨v1, r, rfl, h1, hd⟩ := hd.inv
  obtain ⟨v2, r, rfl, h2, hd⟩ := hd.inv
  obtain rfl := hd.inv0
  have nd := sc_is_rule.nd
  refine ⟨_, (pss_cons (ps_if (PW.pt (pw_or (pt_not (pt_val (pe_callB (crIsiK K) (by rfl) T.b_isinstance (by decide +kernel) (pa_cons (pv 0) (pa_cons (pe_bltn (v := .ty "tuple") (u := Value.type "tuple") rfl T.b_tuple (by decide +kernel) rfl) pa_nil))))) (pw_or (pt_cmpR (neDK K (h64 hr)) (pe_callB (crLenK K) (by rfl) T.b_len (by decide +kernel) (pa_cons (pv 0) pa_nil)) pe_int (nomark _)) (pw_or1 (pt_not (pt_val (pe_callB (crIsiK K) (by rfl) T.b_isinstance (by decide +kernel) (pa_cons (pe_ix (ix_seqK K) (pv 0) pe_int (fun _ _ => rfl)) (pa_cons (pe_bltn (v := .ty "str") (u := Value.type "str") rfl T.b_str (by decide +kernel) rfl) pa_nil))))))))) (pss_one (ps_ret pe_bl)) pss_nil)
    (pss_cons (ps_if (PW.pt (pw_and (pt_cmpR (neDK K (h64 hr)) (pe_ix (ix_seqK K) (pv 0) pe_int (fun _ _ => rfl)) (pe_glob (v := .str "settles") rfl T.c_SETTLES ⟨_, rfl⟩) (nomark _)) (pw_and1 (pt_cmpR (neDK K (h64 hr)) (pe_ix (ix_seqK K) (pv 0) pe_int (fun _ _ => rfl)) (pe_glob (v := .str "within") rfl T.c_WITHIN ⟨_, rfl⟩) (nomark _))))) (pss_one (ps_ret pe_bl)) pss_nil)
    (pss_one (ps_ret (pe_and (pe_fn F_is_column (hr.mono (by decide)) rfl (pa_cons (pe_ix (ix_seqK K) (pv 0) pe_int (fun _ _ => rfl)) (pa_cons (pv 1) pa_nil))) (pe_and (pe_fn F_is_column (hr.mono (by decide)) rfl (pa_cons (pe_ix (ix_seqK K) (pv 0) pe_int (fun _ _ => rfl)) (pa_cons (pv 1) pa_nil))) (pe_one (pe_cmpR (neDK K (h64 hr)) (pe_ix (ix_seqK K) (pv 0) pe_int (fun _ _ => rfl)) (pe_ix (ix_seqK K) (pv 0) pe_int (fun _ _ => rfl)) (nomark _))))))))), ?_⟩
  show tSeq _ _ _ [some v1, some v2] H
  have t0 : ∀ {G' : Hp}, Ex G G' → EvD (tOp (rIx K) (tVar 0) (tC (.int 0))) [some v1, some v2] G' (.str (kd ru.1)) := fun e => d_op (d_var rfl (h1.up e)) d_int (r_ixT (at0 _ _ _))
  have t1 : ∀ {G' : Hp}, Ex G G' → EvD (tOp (rIx K) (tVar 0) (tC (.int 1))) [some v1, some v2] G' (I1 ru.2.1) := fun e => d_op (d_var rfl (h1.up e)) d_int (r_ixT (at1 _ _ _))
  have t2 : ∀ {G' : Hp}, Ex G G' → EvD (tOp (rIx K) (tVar 0) (tC (.int 2))) [some v1, some v2] G' (I1 ru.2.2) := fun e => d_op (d_var rfl (h1.up e)) d_int (r_ixT (at2 _ _ _))
  refine q_when (b := (!true) || ((!PyData.eqv (.int 3) (.int 3)) || (!true))) (b_or (b_not (b_B (d_isi "tuple" (d_var rfl h1) v_c (by decide +kernel)))) fun _ => b_or (b_test (d_op (d_cb (a_cons (d_var rfl h1) a_nil) c_lenT) d_int (r_ne rfl rfl))) fun _ => b_not (b_B (d_isi "str" (t0 (Ex.refl _)) v_c (by decide +kernel)))) eG
    (fun hx => absurd hx (by decide)) fun _ G2 H2 g2 => ?_
  refine q_when (b := (!PyData.eqv (.str (kd ru.1)) (.str "settles")) && (!PyData.eqv (.str (kd ru.1)) (.str "within"))) (b_and (b_test (d_op (t0 g2.g) d_str (r_ne (shaped_kd _) (shaped_kd true)))) fun _ => b_test (d_op (t0 g2.g) d_str (r_ne (shaped_kd _) (shaped_kd false)))) g2.gh
    (fun hx => absurd hx (by rw [eqv_str, eqv_str]; cases ru.1 <;> decide +kernel)) fun _ G3 H3 g3 => ?_
  refine s_ret (d := .bool (true && (true && !PyData.eqv (I1 ru.2.1) (I1 ru.2.2)))) ?_ g3.gh fun v G4 H4 g4 hv => k v _ G4 H4 (by
    show PyData.bool _ = _
    rw [eqv_I1, decide_eq_false hab]; rfl) ((g2.trans g3).trans g4) hv
  have e3 := g2.g.trans g3.g
  exact d_andV (d_call (a_cons (t1 e3) (a_cons (d_var rfl (h2.up e3)) a_nil)) ⟨_, _, rfl, ha, rfl⟩) fun _ => d_andV (d_call (a_cons (t2 e3) (a_cons (d_var rfl (h2.up e3)) a_nil)) ⟨_, _, rfl, hb, rfl⟩) fun _ => d_op (t1 e3) (t2 e3) (r_ne rfl rfl)
def R_needrule : List PyData → (PyData → Prop) → Prop := fun ds S => ∃ (r : Ru) (n : Nat), ds = [RU r, I1 n] ∧ validR n r ∧ S = fun d => d = .none
theorem sc_need_rule : FnScope ["thing", "width"] ["thing", "width"] (defScope s_need_rule) := ⟨rfl, rfl, rfl, by decide +kernel, rfl, by decide +kernel, by decide +kernel⟩
theorem ok_need_rule {f : Addr} {fd : FuncData} (F : Fun K "need_rule" "need_rule" s_need_rule f fd) (T : Txt Z K mg) (F_is_rule : Fn1 P w K mg base "is_rule" 4 (spR R_isrule)) : FnOk P w K mg base CX0 5 f fd ["thing", "width"] (spR R_needrule) := by
  refine F.ok sc_need_rule (fun vs H Q E h => spR_len (n := 2) (fun ds S ⟨c, n, e, _⟩ => by rw [e]; rfl) h) (fun cdv A outer s H vs Q E hr h => ?_)
  obtain ⟨G, ds, S, ⟨ru, n, rfl, hv, rfl⟩, eG, hd, k⟩ := h
  obtain ⟨v1, r, rfl, h1, hd⟩ := hd.inv
  obtain ⟨v2, r, rfl, h2, hd⟩ := hd.inv
  obtain rfl := hd.inv0
  have nd := sc_need_rule.nd
  refine ⟨_, (pss_one (ps_if (pt_not (pt_val (pe_fn F_is_rule (hr.mono (by decide)) rfl (pa_cons (pv 0) (pa_cons (pv 1) pa_nil))))) (pss_one ps_never) pss_nil)), ?_⟩
  show tIfS _ _ _ _ [some v1, some v2] H
  exact s_when (b := !true) (b_not (b_B (d_call (a_cons (d_var rfl h1) (a_cons (d_var rfl h2) a_nil)) ⟨ru, n, rfl, hv, rfl⟩))) eG (fun hx => absurd hx (by decide)) fun _ G2 H2 g => k .non _ G2 H2 rfl g .non
/-! ### are_rules: over a list; over a star's tuple -/
def GoodL (n : Nat) (rs : List Ru) : Prop := rs.length ≤ 200 ∧ (∀ r ∈ rs, validR n r) ∧ rs.Nodup
theorem trues {α : Type} (xs : List α) : ((xs.filter fun _ => true).map fun _ => PyData.bool true) = (xs.map fun _ => true).map PyData.bool := by
  rw [List.filter_eq_self.mpr fun _ _ => rfl, List.map_map]; rfl
theorem all_true {α : Type} (xs : List α) : (xs.map fun _ => true).all id = true := by
  rw [List.all_eq_true]
  intro b hb
  obtain ⟨_, _, rfl⟩ := List.mem_map.mp hb
  rfl
def R_arerules : List PyData → (PyData → Prop) → Prop := fun ds S => ∃ (rs : List Ru) (n : Nat), ds = [.list (rs.map RU), I1 n] ∧ GoodL n rs ∧ S = fun d => d = .bool true
theorem sc_are_rules : FnScope ["things", "width", "thing"] ["things", "width"] (defScope s_are_rules) := ⟨rfl, rfl, rfl, by decide +kernel, rfl, by decide +kernel, by decide +kernel⟩
theorem ok_are_rulesL {f : Addr} {fd : FuncData} (F : Fun K "are_rules" "are_rules" s_are_rules f fd) (T : Txt Z K mg) (F_is_rule : Fn1 P w K mg base "is_rule" 4 (spR R_isrule)) : FnOk P w K mg base CX0 5 f fd ["things", "width"] (spR R_arerules) := by
  refine F.ok sc_are_rules (fun vs H Q E h => spR_len (n := 2) (fun ds S ⟨c, n, e, _⟩ => by rw [e]; rfl) h) (fun cdv A outer s H vs Q E hr h => ?_)
  obtain ⟨G, ds, S, ⟨rs, n, rfl, ⟨hlen, hval, hnd⟩, rfl⟩, eG, hd, k⟩ := h
  obtain ⟨v1, r, rfl, h1, hd⟩ := hd.inv
  obtain ⟨v2, r, rfl, h2, hd⟩ := hd.inv
  obtain rfl := hd.inv0
  have nd := sc_are_rules.nd
  refine ⟨_, (pss_cons (ps_if (pt_not (pt_val (pe_callB (crAllK K rfl) (by rfl) T.b_all (by decide +kernel) (pa_cons (pe_lc (own := [("thing", 2)]) (by rfl) nd (piListK K (pv 0)) (blkOk_by (own := [("thing", 2)]) (N := ["things", "width", "thing"]) (sc := (defScope s_are_rules)) (by decide +kernel)) (fun _ _ _ _ _ => (pgN 2 nd)) (fun _ _ _ _ _ => pts_nil) (fun _ _ _ _ _ => (pe_fn F_is_rule (hr.mono (by decide)) rfl (pa_cons (pv 2) (pa_cons (pv 1) pa_nil))))) pa_nil)))) (pss_one (ps_ret pe_bl)) pss_nil)
    (pss_one (ps_ret (pe_callB (crAllK K rfl) (by rfl) T.b_all (by decide +kernel) (pa_cons (pe_lc (own := [("thing", 2)]) (by rfl) nd (piListK K (pv 0)) (blkOk_by (own := [("thing", 2)]) (N := ["things", "width", "thing"]) (sc := (defScope s_are_rules)) (by decide +kernel)) (fun _ _ _ _ _ => (pgN 2 nd)) (fun _ _ _ _ _ => pts_nil) (fun _ _ _ _ _ => (pe_cmpR (eqDK K (h64 hr)) (peCntK K (h80 hr) (pv 0) (pv 2)) pe_int (nomark _)))) pa_nil))))), ?_⟩
  show tSeq _ _ _ [some v1, some v2, none] H
  have c1 := m_lcL (K := K) (σ := [some v1, some v2, none]) (G := G) (tl := tVar 0) (vs := [2]) (g := gName 2) (tt := tYes) (te := tCall (spR R_isrule) [] E0 (tCons (tVar 2) (tCons (tVar 1) tNil))) (enc := RU) (xs := rs) (fun _ => true) (fun _ => .bool true) (d_var rfl h1) (by omega)
    (fun x v G1 H1 hx e1 e2 hv Q q => q _ rfl (fun G1 H1 _ e2 Q q => q G1 H1 (Grow.refl e2)) fun _ => d_call (a_cons (d_var rfl hv) (a_cons (d_var rfl (h2.up e1)) a_nil)) ⟨x, n, rfl, hval x hx, rfl⟩)
  rw [trues] at c1
  refine q_when (b := !(rs.map fun _ => true).all id) (b_not (b_B (d_cb (a_cons c1.toD a_nil) c_all))) eG (fun hx => absurd hx (by rw [all_true]; decide)) fun _ G2 H2 g2 => ?_
  have c2 := m_lcL (K := K) (σ := [some v1, some v2, none]) (G := G2) (tl := tVar 0) (vs := [2]) (g := gName 2) (tt := tYes) (te := tOp (rEqD K) (tCnt K (tVar 0) (tVar 2)) (tC (.int 1))) (enc := RU) (xs := rs) (fun _ => true) (fun _ => .bool true) (d_var rfl (h1.up g2.g)) (by omega)
    (fun x v G1 H1 hx e1 e2 hv Q q => q _ rfl (fun G1 H1 _ e2 Q q => q G1 H1 (Grow.refl e2)) fun _ => by
      refine (d_op (d_cntL (d_var rfl (h1.up (g2.g.trans e1))) (d_var rfl hv) (plain_RUs rs) (lay_plain (lay_RU x)) (Nat.le_trans (lay_RU x).2 (by decide))) d_int (r_eq rfl rfl)).is ?_
      rw [count_RU, count_one hnd hx, eqv_int]; rfl)
  rw [trues] at c2
  refine s_ret (d := .bool ((rs.map fun _ => true).all id)) (d_cb (a_cons c2.toD a_nil) c_all) g2.gh fun v G3 H3 g3 hv => k v _ G3 H3 (by show PyData.bool _ = _; rw [all_true]) (g2.trans g3) hv
/-- .. over a tuple that a star has made -/
def spArT : Sp := fun vs H Q _ => ∃ (G : Hp) (a : Addr) (ob : Obj) (xs : List V) (rs : List Ru) (n : Nat), vs = [.ref a, .int (n : Int)] ∧ Ex G H ∧ G a = some (.frz ob (.tup xs)) ∧ ob.dict = none ∧ DDs G xs (rs.map RU) ∧ GoodL n rs ∧ ∀ G2 H2, Grow M0 G H G2 H2 → Q (.bl true) H2
theorem ok_are_rulesT {f : Addr} {fd : FuncData} (F : Fun K "are_rules" "are_rules" s_are_rules f fd) (T : Txt Z K mg) (F_is_rule : Fn1 P w K mg base "is_rule" 4 (spR R_isrule)) : FnOk P w K mg base CX0 5 f fd ["things", "width"] spArT := by
  refine F.ok sc_are_rules (fun vs H Q E h => ?_) (fun cdv A outer s H vs Q E hr h => ?_)
  · obtain ⟨G, a, ob, xs, rs, n, rfl, _⟩ := h
    rfl
  obtain ⟨G, a, ob, xs, rs, n, rfl, eG, hf, hob, hx, ⟨hlen, hval, hnd⟩, k⟩ := h
  have nd := sc_are_rules.nd
  have h1 : DD G (.ref a) (.tuple (rs.map RU)) := .tup (.inr ⟨ob, hf⟩) hx
  refine ⟨_, (pss_cons (ps_if (pt_not (pt_val (pe_callB (crAllK K rfl) (by rfl) T.b_all (by decide +kernel) (pa_cons (pe_lc (own := [("thing", 2)]) (by rfl) nd (piTupK K (pv 0)) (blkOk_by (own := [("thing", 2)]) (N := ["things", "width", "thing"]) (sc := (defScope s_are_rules)) (by decide +kernel)) (fun _ _ _ _ _ => (pgN 2 nd)) (fun _ _ _ _ _ => pts_nil) (fun _ _ _ _ _ => (pe_fn F_is_rule (hr.mono (by decide)) rfl (pa_cons (pv 2) (pa_cons (pv 1) pa_nil))))) pa_nil)))) (pss_one (ps_ret pe_bl)) pss_nil)
    (pss_one (ps_ret (pe_callB (crAllK K rfl) (by rfl) T.b_all (by decide +kernel) (pa_cons (pe_lc (own := [("thing", 2)]) (by rfl) nd (piTupK K (pv 0)) (blkOk_by (own := [("thing", 2)]) (N := ["things", "width", "thing"]) (sc := (defScope s_are_rules)) (by decide +kernel)) (fun _ _ _ _ _ => (pgN 2 nd)) (fun _ _ _ _ _ => pts_nil) (fun _ _ _ _ _ => (pe_cmpR (eqDK K (h64 hr)) (peCntK K (h80 hr) (pv 0) (pv 2)) pe_int (nomark _)))) pa_nil))))), ?_⟩
  show tSeq _ _ _ [some (.ref a), some (.int (n : Int)), none] H
  have c1 := m_lcT (K := K) (σ := [some (.ref a), some (.int (n : Int)), none]) (G := G) (tl := tVar 0) (vs := [2]) (g := gName 2) (tt := tYes) (te := tCall (spR R_isrule) [] E0 (tCons (tVar 2) (tCons (tVar 1) tNil))) (enc := RU) (xs := rs) (fun _ => true) (fun _ => .bool true) (d_var rfl h1) (by omega)
    (fun x v G1 H1 hx e1 e2 hv Q q => q _ rfl (fun G1 H1 _ e2 Q q => q G1 H1 (Grow.refl e2)) fun _ => d_call (a_cons (d_var rfl hv) (a_cons (d_var rfl (.int _)) a_nil)) ⟨x, n, rfl, hval x hx, rfl⟩)
  rw [trues] at c1
  refine q_when (b := !(rs.map fun _ => true).all id) (b_not (b_B (d_cb (a_cons c1.toD a_nil) c_all))) eG (fun hx => absurd hx (by rw [all_true]; decide)) fun _ G2 H2 g2 => ?_
  have c2 := m_lcT (K := K) (σ := [some (.ref a), some (.int (n : Int)), none]) (G := G2) (tl := tVar 0) (vs := [2]) (g := gName 2) (tt := tYes) (te := tOp (rEqD K) (tCnt K (tVar 0) (tVar 2)) (tC (.int 1))) (enc := RU) (xs := rs) (fun _ => true) (fun _ => .bool true) (d_var rfl (h1.up g2.g)) (by omega)
    (fun x v G1 H1 hx' e1 e2 hv Q q => q _ rfl (fun G1 H1 _ e2 Q q => q G1 H1 (Grow.refl e2)) fun _ => by
      refine (d_op (d_cntT (v_var rfl) (e1 _ _ (g2.g _ _ hf)) hob (hx.up (g2.g.trans e1)) (d_var rfl hv) (plain_RUs rs) (lay_plain (lay_RU x)) (Nat.le_trans (lay_RU x).2 (by decide))) d_int (r_eq rfl rfl)).is ?_
      rw [count_RU, count_one hnd hx', eqv_int]; rfl)
  rw [trues] at c2
  exact s_ret (d := .bool ((rs.map fun _ => true).all id)) (d_cb (a_cons c2.toD a_nil) c_all) g2.gh fun v G3 H3 g3 hv => by
    have e := hv.eqB
    rw [all_true] at e
    subst e
    exact k G3 H3 (g2.trans g3)
/-! ### column_of, rule_of -/
def R_colof : List PyData → (PyData → Prop) → Prop := fun ds S => ∃ c : Nat, ds = [.str (dig c)] ∧ c < 6 ∧ S = fun d => d = I1 c
theorem sc_column_of : FnScope ["word"] ["word"] (defScope s_column_of) := ⟨rfl, rfl, rfl, by decide +kernel, rfl, by decide +kernel, by decide +kernel⟩
theorem ok_column_of {f : Addr} {fd : FuncData} (F : Fun K "column_of" "column_of" s_column_of f fd) (T : Txt Z K mg) : FnOk P w K mg base CX0 1 f fd ["word"] (spR R_colof) := by
  refine F.ok sc_column_of (fun vs H Q E h => spR_len (n := 1) (fun ds S ⟨c, e, _⟩ => by rw [e]; rfl) h) (fun cdv A outer s H vs Q E hr h => ?_)
  obtain ⟨G, ds, S, ⟨c, rfl, hc, rfl⟩, eG, hd, k⟩ := h
  obtain ⟨v1, r, rfl, h1, hd⟩ := hd.inv
  obtain rfl := hd.inv0
  have nd := sc_column_of.nd
  refine ⟨_, (pss_one (ps_ret (pe_ifExp (pt_cmpR (eqDK K (h64 hr)) (pe_callB (crLenK K) (by rfl) T.b_len (by decide +kernel) (pa_cons (pv 0) pa_nil)) pe_int (nomark _)) (pe_m1 PySem.F.slot_str_find PySem.F.type_str_find mt_find pe_str (pv 0) (by rfl) (by rfl) (by rfl)) (pe_un un_neg pe_int)))), ?_⟩
  show tRet _ _ [some v1] H
  have hl : (dig c).length = 1 := SX.S_len _
  refine s_ret (d := I1 c) ?_ eG fun v G2 H2 g hv => k v _ G2 H2 rfl g hv
  refine (d_if (b := PyData.eqv (.int ((dig c).length : Int)) (.int 1)) (b_test (d_op (d_cb (a_cons (d_var rfl h1) a_nil) (c_lenS (by rw [hl]; decide))) d_int (r_eq rfl rfl))) (fun _ => d_m1 d_str (d_var rfl h1) m_find) fun _ => d_neg1).is ?_
  rw [eqv_int, hl, find_dig hc]; rfl
def R_ruleof : List PyData → (PyData → Prop) → Prop := fun ds S => ∃ r : Ru, ds = [.str (lineOf r)] ∧ r.2.1 < 6 ∧ r.2.2 < 6 ∧ S = fun d => d = RU r
theorem sc_rule_of : FnScope ["line", "words"] ["line"] (defScope s_rule_of) := ⟨rfl, rfl, rfl, by decide +kernel, rfl, by decide +kernel, by decide +kernel⟩
theorem ok_rule_of {f : Addr} {fd : FuncData} (F : Fun K "rule_of" "rule_of" s_rule_of f fd) (T : Txt Z K mg) (F_column_of : Fn1 P w K mg base "column_of" 1 (spR R_colof)) : FnOk P w K mg base CX0 2 f fd ["line"] (spR R_ruleof) := by
  refine F.ok sc_rule_of (fun vs H Q E h => spR_len (n := 1) (fun ds S ⟨c, e, _⟩ => by rw [e]; rfl) h) (fun cdv A outer s H vs Q E hr h => ?_)
  obtain ⟨G, ds, S, ⟨ru, rfl, ha, hb, rfl⟩, eG, hd, k⟩ := h
  obtain ⟨v1, r, rfl, h1, hd⟩ := hd.inv
  obtain rfl := hd.inv0
  have nd := sc_rule_of.nd
  refine ⟨_, (pss_cons (ps_set (i := 1) nd rfl (by first | exact Or.inl rfl | exact Or.inr rfl) (pe_split (pv 0) pe_str))
    (pss_cons (ps_if (pt_cmpR (neDK K (h64 hr)) (pe_callB (crLenK K) (by rfl) T.b_len (by decide +kernel) (pa_cons (pv 1) pa_nil)) pe_int (nomark _)) (pss_one (ps_ret (pe_tup pa_nil))) pss_nil)
    (pss_one (ps_ret (pe_tup (pa_cons (pe_ix (ix_seqK K) (pv 1) pe_int (fun _ _ => rfl)) (pa_cons (pe_fn F_column_of (hr.mono (by decide)) rfl (pa_cons (pe_ix (ix_seqK K) (pv 1) pe_int (fun _ _ => rfl)) pa_nil)) (pa_cons (pe_fn F_column_of (hr.mono (by decide)) rfl (pa_cons (pe_ix (ix_seqK K) (pv 1) pe_int (fun _ _ => rfl)) pa_nil)) pa_nil)))))))), ?_⟩
  show tSeq _ _ _ [some v1, none] H
  have hs := m_split (a := lineOf ru) (b := " ") (te := tVar 0) (ta := tC (.str " ")) (σ := [some v1, none]) (G := G) (d_var rfl h1) d_str (by decide +kernel) (by
    have : (lineOf ru).length = (lineL ru).length := SX.S_len _
    rw [this]; have := lineL_len ru; omega)
  rw [split_line ru ha hb] at hs
  refine q_asg hs.toD eG fun v2 G2 H2 g2 hv2 => ?_
  show tSeq _ _ _ [some v1, some v2] H2
  refine q_when (b := !PyData.eqv (.int 3) (.int 3)) (b_test (d_op (d_cb (a_cons (d_var rfl hv2) a_nil) c_lenL) d_int (r_ne rfl rfl))) g2.gh (fun hx => absurd hx (by decide)) fun _ G3 H3 g3 => ?_
  have t0 : EvD (tOp (rIx K) (tVar 1) (tC (.int 0))) [some v1, some v2] G3 (.str (dig ru.2.1)) := d_op (d_var rfl (hv2.up g3.g)) d_int (r_ixL (at0 _ _ _))
  have t1 : EvD (tOp (rIx K) (tVar 1) (tC (.int 1))) [some v1, some v2] G3 (.str (kd ru.1)) := d_op (d_var rfl (hv2.up g3.g)) d_int (r_ixL (at1 _ _ _))
  have t2 : EvD (tOp (rIx K) (tVar 1) (tC (.int 2))) [some v1, some v2] G3 (.str (dig ru.2.2)) := d_op (d_var rfl (hv2.up g3.g)) d_int (r_ixL (at2 _ _ _))
  exact s_ret (d := RU ru) (d_tup (a_cons t1 (a_cons (d_call (a_cons t0 a_nil) ⟨_, rfl, ha, rfl⟩) (a_cons (d_call (a_cons t2 a_nil) ⟨_, rfl, hb, rfl⟩) a_nil)))) g3.gh fun v G4 H4 g4 hv => k v _ G4 H4 rfl ((g2.trans g3).trans g4) hv
end
end CP
set_option Elab.async false
set_option linter.all false
set_option maxRecDepth 100000
set_option maxHeartbeats 4000000
namespace CP
open PySem L2 CL CM
/-- what is asked of the class -/
structure TxtC (Z : Ads) (K : PySem.W.Frag) : Prop where
  cR : Cls K Z.aR
  nC : NoAttr K Z.aR "columns"
  nK : NoAttr K Z.aR "kept"
section
variable {P : Program} {w : World} {K : PySem.W.Frag} {mg : Str → Option Value} {base : Heap} {Z : Ads}
/-! ### __init__ -/
def spInit (C : Addr) : Sp := fun vs H Q _ => ∃ (G : Hp) (x dx t : Addr) (ob : Obj) (xs : List V) (rs : List Ru) (n : Nat), vs = [.ref x, .int (n : Int), .ref t] ∧ Ex G H ∧ G x = none ∧ H x = some (.ins C dx []) ∧ G t = some (.frz ob (.tup xs)) ∧ ob.dict = none ∧ DDs G xs (rs.map RU) ∧
  GoodL n rs ∧ 1 ≤ n ∧ n ≤ 6 ∧ ∀ G2 H2, Grow (fun a => a = x) G H G2 H2 → H2 x = some (.ins C dx (flds n t)) → G2 x = none → Q .non H2
def spInitS (C : Addr) : Sp := fun vs H Q E => ∃ ws rest, vs = ws ++ rest ∧ ws.length = ["self", "width"].length ∧ rest.length ≤ sizeLine ∧ ∀ p ob, H p = Option.none → ob.dict = Option.none → spInit C (ws ++ [V.ref p]) (upd H p (.frz ob (.tup rest))) Q E
theorem sc_Rules_init : FnScope ["self", "width", "rules"] ["self", "width", "rules"] (defScope s_Rules_init) := ⟨rfl, rfl, rfl, by decide +kernel, rfl, by decide +kernel, by decide +kernel⟩
theorem ok_init {f : Addr} {fd : FuncData} (F : Fun K "__init__" "Rules.__init__" s_Rules_init f fd) (T : Txt Z K mg) (U : TxtC Z K) (F_need_width : Fn1 P w K mg base "need_width" 3 (spR R_needw)) (F_are_rules : Fn1 P w K mg base "are_rules" 5 spArT) : FnR P w K mg base CX0 6 f (spInitS Z.aR) := by
  refine Fun.okS (ps := ["self", "width"]) (pv := "rules") F sc_Rules_init (fun _ _ _ _ _ _ us rest hl => ?_) (fun cdv A outer s H vs Q E hr h => ?_)
  · match us, hl, rest with
    | [a, b], _, [] => rfl
    | [a, b], _, r :: rs => rfl
  obtain ⟨G, x, dx, t, ob, xs, rs, n, rfl, eG, hGx, hx, ht, hob, hxs, hgood, hn1, hn6, k⟩ := h
  have nd := sc_Rules_init.nd
  refine ⟨_, (pss_cons (ps_expr (pe_fn F_need_width (hr.mono (by decide)) rfl (pa_cons (pv 1) pa_nil)))
    (pss_cons (ps_if (pt_not (pt_val (pe_fn F_are_rules (hr.mono (by decide)) rfl (pa_cons (pv 2) (pa_cons (pv 1) pa_nil))))) (pss_one ps_never) pss_nil)
    (pss_one (ps_asg (pe_tup (pa_cons (pv 1) (pa_cons (pv 2) pa_nil))) (pgTupK K (n := 2) (pgs_cons (pg_fld (pv 0)) (pgs_cons (pg_fld (pv 0)) pgs_nil))))))), ?_⟩
  show tSeq _ _ _ [some (.ref x), some (.int (n : Int)), some (.ref t)] H
  refine (d_call (E := E0) (R := R_needw) (z := .none) (a_cons (d_var (σ := [some (.ref x), some (.int (n : Int)), some (.ref t)]) (i := 1) rfl (.int _)) a_nil) ⟨n, rfl, hn1, hn6, rfl⟩).go eG fun v G1 H1 g1 _ => ?_
  have har : EvD (tCall spArT [] E0 (tCons (tVar 2) (tCons (tVar 1) tNil))) [some (.ref x), some (.int (n : Int)), some (.ref t)] G1 (.bool true) := .mk fun G2 H2 e1 e2 Q q =>
    ⟨.ref t, rfl, .int (n : Int), rfl, G2, t, ob, xs, rs, n, rfl, e2, e1 _ _ (g1.g _ _ ht), hob, hxs.up (g1.g.trans e1), hgood, fun G3 H3 g3 => q _ G3 H3 g3 (.bl _)⟩
  refine q_when (b := !true) (b_not (b_B har)) g1.gh (fun hx => absurd hx (by decide)) fun _ G2 H2 g2 => ?_
  have g12 := g1.trans g2
  have hx2 : H2 x = some (.ins Z.aR dx []) := g12.ex _ _ hx
  have hGx2 : G2 x = none := g12.new x (by rw [hx]; exact fun z => nomatch z) hGx
  refine ⟨_, rfl, _, rfl, (by show 2 ≤ sizeLine; decide), fun p hp => ⟨p, _, rfl, .inl (.inl upd_same), rfl, _, _, rfl, ?_⟩⟩
  have npx : x ≠ p := ne_of_none hx2 hp
  refine ⟨_, rfl, x, Z.aR, dx, _, rfl, by rw [upd_ne npx]; exact hx2, U.cR, U.nC, by decide, _, _, rfl, ?_⟩
  refine ⟨_, rfl, x, Z.aR, dx, _, rfl, upd_same, U.cR, U.nK, (by show 1 < 1000; decide), rfl, ?_⟩
  have g3 : Grow (fun a => a = x) G H G2 (upd H2 p (.tup [.int (n : Int), .ref t])) := (g12.trans (Grow.mnew g2.gh hp)).of0
  have g4 := g3.set (o := .ins Z.aR dx (putF "columns" (.int (n : Int)) [])) (.inr rfl) hGx2 (by rw [upd_ne npx, hx2]; exact fun z => nomatch z)
  have g5 := g4.set (o := .ins Z.aR dx (flds n t)) (.inr rfl) hGx2 (by rw [upd_same]; exact fun z => nomatch z)
  exact k _ _ g5 upd_same hGx2
/-- C(n, *rules) -/
theorem make_rules {σ : VSt} {G : Hp} {ta tb : TE} {n : Nat} {rs : List Ru} (h1 : EvD ta σ G (I1 n)) (h2 : EvD tb σ G (.list (rs.map RU))) (hgood : GoodL n rs) (hn1 : 1 ≤ n) (hn6 : n ≤ 6) :
    ∀ G1 H1, Ex G G1 → Ex G1 H1 → ∀ Q : VK, (∀ v G2 H2, Grow M0 G1 H1 G2 H2 → RO Z.aR G2 v n rs → Q v H2) → StX.tMakeR Z.aR (spInitS Z.aR) E0 (tCons ta (StX.tStar K tb tNil)) σ H1 Q := fun G1 H1 e1 e2 Q q =>
  h1.go' e1 e2 fun v G2 H2 g2 hv => h2.go' (e1.trans g2.g) g2.gh fun u G3 H3 g3 hu => by
    obtain rfl := hv.eqI
    obtain ⟨pa, xs, rfl, hpa, hxs⟩ := hu.eqL
    refine ⟨pa, xs, rfl, .inr (.inl (.inl (g3.gh _ _ hpa))), fun x dx hx hdx hne => ?_⟩
    have g4 : Grow M0 G1 H1 G3 (upd H3 dx (.own x)) := (g2.trans g3).trans (Grow.mnew g3.gh hdx)
    have hx4 : (upd H3 dx (.own x)) x = none := by rw [upd_ne (fun z => hne z.symm)]; exact hx
    have g5 : Grow M0 G1 H1 G3 (upd (upd H3 dx (.own x)) x (.ins Z.aR dx [])) := g4.trans (Grow.mnew g4.gh hx4)
    have hx1 : H1 x = none := g4.there x hx4
    have hG3x : G3 x = none := g4.gh.back hx4
    refine ⟨[.ref x, .int (n : Int)], xs ++ [], rfl, rfl, ?_, fun p ob hp hob => ?_⟩
    · rw [List.append_nil, hxs.length, List.length_map]
      have := hgood.1
      exact Evl.sz_of (by omega)
    · rw [List.append_nil]
      have npx : x ≠ p := fun z => by
        rw [← z, upd_same] at hp
        cases hp
      have g6 := g5.trans (Grow.laid (o := .frz ob (.tup xs)) g5.gh hp)
      have e36 : Ex G3 (upd G3 p (.frz ob (.tup xs))) := Ex.frz (g5.gh.back hp)
      refine ⟨upd G3 p (.frz ob (.tup xs)), x, dx, p, ob, xs, rs, n, rfl, g6.gh, by rw [upd_ne npx]; exact hG3x, by rw [upd_ne npx, upd_same], upd_same, hob, hxs.up e36, hgood, hn1, hn6, fun G7 H7 g7 hx7 hG7 => ⟨rfl, ?_⟩⟩
      have g17 : Grow M0 G1 H1 G7 H7 := g6.priv g7 hx1
      have e78 : Ex G7 (upd G7 x (.ins Z.aR dx (flds n p))) := Ex.frz hG7
      refine q (.ref x) _ H7 (g17.freeze hx1 hG7 hx7) ⟨x, dx, p, rfl, upd_same, .tup (.inr ⟨ob, e78 _ _ (g7.g _ _ upd_same)⟩) (hxs.up (e36.trans (g7.g.trans e78)))⟩
/-! ### read -/
def spRead (C : Addr) : Sp := fun vs H Q _ => ∃ (G : Hp) (rs : List Ru) (n : Nat), vs = [.ref C, .int (n : Int), .str (textOf rs)] ∧ Ex G H ∧ GoodL n rs ∧ 1 ≤ n ∧ n ≤ 6 ∧ ∀ v G2 H2, Grow M0 G H G2 H2 → RO C G2 v n rs → Q v H2
theorem valid6 {n : Nat} {r : Ru} (h : validR n r) (hn : n ≤ 6) : r.2.1 < 6 ∧ r.2.2 < 6 := ⟨Nat.lt_of_lt_of_le h.1 hn, Nat.lt_of_lt_of_le h.2.1 hn⟩
theorem good_of {n : Nat} {rs : List Ru} (h : GoodL n rs) (hn : n ≤ 6) : GoodRs rs := ⟨h.1, fun r hr => valid6 (h.2.1 r hr) hn⟩
theorem cut_lines (rs : List Ru) : cutD ((rs.map lineOf ++ [S []]).map PyData.str) none (some (-1)) = rs.map fun r => PyData.str (lineOf r) := by
  unfold cutD
  rw [HT.sIx_none, List.drop_zero, List.length_map, List.length_append, List.length_map, List.length_singleton]
  have e : HT.sIx (rs.length + 1) (rs.length + 1) (some (-1)) = rs.length := by
    show (if (-1 : Int) < 0 then ((-1 : Int) + ((rs.length + 1 : Nat) : Int)).toNat else min (-1 : Int).toNat (rs.length + 1)) = _
    rw [if_pos (by decide)]
    omega
  rw [e, Nat.sub_zero, List.map_append, List.take_append_of_le_length (by simp), List.take_of_length_le (by simp), List.map_map]
  rfl
theorem sc_Rules_read : FnScope ["cls", "width", "text", "found", "line"] ["cls", "width", "text"] (defScope s_Rules_read) := ⟨rfl, rfl, rfl, by decide +kernel, rfl, by decide +kernel, by decide +kernel⟩
theorem ok_read {f fi : Addr} {fd : FuncData} (F : Fun K "read" "Rules.read" s_Rules_read f fd) (T : Txt Z K mg) (F_need_width : Fn1 P w K mg base "need_width" 3 (spR R_needw)) (F_are_rules : Fn1 P w K mg base "are_rules" 5 (spR R_arerules)) (F_rule_of : Fn1 P w K mg base "rule_of" 2 (spR R_ruleof))
    (M_init : Mk K Z.aR fi) (F_init : FnR P w K mg base CX0 6 fi (spInitS Z.aR)) : FnOk P w K mg base CX0 8 f fd ["cls", "width", "text"] (spRead Z.aR) := by
  refine F.ok sc_Rules_read (fun vs H Q E h => ?_) (fun cdv A outer s H vs Q E hr h => ?_)
  · obtain ⟨G, rs, n, rfl, _⟩ := h
    rfl
  obtain ⟨G, rs, n, rfl, eG, hgood, hn1, hn6, k⟩ := h
  have nd := sc_Rules_read.nd
  have v6 : ∀ r ∈ rs, r.2.1 < 6 ∧ r.2.2 < 6 := fun r hr => valid6 (hgood.2.1 r hr) hn6
  refine ⟨_, (pss_cons (ps_expr (pe_fn F_need_width (hr.mono (by decide)) rfl (pa_cons (pv 1) pa_nil)))
    (pss_cons (ps_if (PW.pt (pw_or (pt_not (pt_val (pe_callB (crIsiK K) (by rfl) T.b_isinstance (by decide +kernel) (pa_cons (pv 2) (pa_cons (pe_bltn (v := .ty "str") (u := Value.type "str") rfl T.b_str (by decide +kernel) rfl) pa_nil))))) (pw_or1 (PW.pt (pw_and (pt_cmpR (neDK K (h64 hr)) (pv 2) pe_str (nomark _)) (pw_and1 (pt_not (pt_val (pe_m1 PySem.F.slot_str_endswith PySem.F.type_str_endswith mt_endswith (pv 2) pe_str (by rfl) (by rfl) (by rfl)))))))))) (pss_one ps_never) pss_nil)
    (pss_cons (ps_setLc (i := 3) (own := [("line", 4)]) rfl nd rfl rfl (sw_true rfl rfl rfl (by decide +kernel)) (piListK K (pe_slice (slLK K) (pe_split (pv 2) pe_str) po_none (po_some (pe_un un_neg pe_int)))) (blkOk_by (own := [("line", 4)]) (N := ["cls", "width", "text", "found", "line"]) (sc := (defScope s_Rules_read)) (by decide +kernel)) (fun _ _ _ _ _ => (pgN 4 nd)) (fun _ _ _ _ _ => pts_nil) (fun _ _ _ _ _ => (pe_fn F_rule_of (hr.mono (by decide)) rfl (pa_cons (pv 4) pa_nil))))
    (pss_cons (ps_if (pt_not (pt_val (pe_fn F_are_rules (hr.mono (by decide)) rfl (pa_cons (pv 3) (pa_cons (pv 1) pa_nil))))) (pss_one ps_never) pss_nil)
    (pss_one (ps_ret (pe_makeSL (i := 0) M_init F_init (hr.mono (by decide)) pass0 (pa_cons (pv 1) (StX.pa_star (pv 3) pa_nil))))))))), ?_⟩
  show tSeq _ _ _ [some (.ref Z.aR), some (.int (n : Int)), some (.str (textOf rs)), none, none] H
  refine (d_call (E := E0) (R := R_needw) (z := .none) (a_cons (d_var (σ := [some (.ref Z.aR), some (.int (n : Int)), some (.str (textOf rs)), none, none]) (i := 1) rfl (.int _)) a_nil) ⟨n, rfl, hn1, hn6, rfl⟩).go eG fun v G1 H1 g1 _ => ?_
  refine q_when (b := (!true) || ((!PyData.eqv (.str (textOf rs)) (.str "")) && (!Txt.endswith (textOf rs) "\n"))) (b_or (b_not (b_B (d_isi "str" (d_var rfl (.str _)) v_c (by decide +kernel)))) fun _ =>
      b_and (b_test (d_op (d_var rfl (.str _)) d_str (r_ne (Lay.shaped (n := 0) ⟨text_ok v6, by simp [PyData.depth]⟩) (by decide +kernel)))) fun _ => b_not (b_B (d_m1 (d_var rfl (.str _)) d_str m_ends))) g1.gh (fun hx => ?_) fun _ G2 H2 g2 => ?_
  · rw [eqv_str] at hx
    by_cases e : rs = []
    · rw [decide_eq_true (text_nil.mpr e)] at hx
      revert hx
      cases Txt.endswith (textOf rs) (Str.ofString "\n") <;> exact fun z => absurd z (by decide)
    · rw [ends_text e, decide_eq_false (fun z => e (text_nil.mp z))] at hx
      exact absurd hx (by decide)
  have hs := m_split (a := textOf rs) (b := "\n") (te := tVar 2) (ta := tC (.str "\n")) (σ := [some (.ref Z.aR), some (.int (n : Int)), some (.str (textOf rs)), none, none]) (G := G2) (d_var rfl (.str _)) d_str (by decide +kernel) (by
    have := textL_inj_len rs; have := hgood.1; omega)
  rw [split_text rs] at hs
  have hc := m_slL (K := K) hs.toD o_none (o_some d_neg1)
  rw [cut_lines] at hc
  have hl := m_lcL (K := K) (vs := [4]) (g := gName 4) (tt := tYes) (te := tCall (spR R_ruleof) [] E0 (tCons (tVar 4) tNil)) (enc := fun r => PyData.str (lineOf r)) (xs := rs) (fun _ => true) RU hc.toD (by have := hgood.1; omega)
    (fun x v G1 H1 hx e1 e2 hv Q q => q _ rfl (fun G1 H1 _ e2 Q q => q G1 H1 (Grow.refl e2)) fun _ => d_call (a_cons (d_var rfl hv) a_nil) ⟨x, rfl, (v6 x hx).1, (v6 x hx).2, rfl⟩)
  rw [List.filter_eq_self.mpr fun _ _ => rfl] at hl
  refine q_asg hl.toD g2.gh fun v3 G3 H3 g3 hv3 => ?_
  show tSeq _ _ _ [some (.ref Z.aR), some (.int (n : Int)), some (.str (textOf rs)), some v3, none] H3
  refine q_when (b := !true) (b_not (b_B (d_call (a_cons (d_var rfl hv3) (a_cons (d_var rfl (.int _)) a_nil)) ⟨rs, n, rfl, hgood, rfl⟩))) g3.gh (fun hx => absurd hx (by decide)) fun _ G4 H4 g4 => ?_
  exact ⟨rfl, make_rules (d_var rfl (.int _)) (d_var rfl (hv3.up g4.g)) hgood hn1 hn6 G4 H4 (Ex.refl _) g4.gh _ fun v G5 H5 g5 hro => k v G5 H5 ((((g1.trans g2).trans g3).trans g4).trans g5) hro⟩
/-! ### rules(rule) -/
def spCallR (C : Addr) : Sp := fun vs H Q _ => ∃ (G : Hp) (v u : V) (rs : List Ru) (r : Ru) (n : Nat), vs = [v, u] ∧ Ex G H ∧ RO C G v n rs ∧ DD G u (RU r) ∧ GoodL n rs ∧ n ≤ 6 ∧ validR n r ∧ ∀ G2 H2, Grow M0 G H G2 H2 → Q (.bl (followsM rs r)) H2
theorem sc_Rules_call : FnScope ["self", "rule"] ["self", "rule"] (defScope s_Rules_call) := ⟨rfl, rfl, rfl, by decide +kernel, rfl, by decide +kernel, by decide +kernel⟩
theorem ok_callR {f : Addr} {fd : FuncData} (F : Fun K "__call__" "Rules.__call__" s_Rules_call f fd) (T : Txt Z K mg) (U : TxtC Z K) (F_need_rule : Fn1 P w K mg base "need_rule" 5 (spR R_needrule)) (F_follows : Fn1 P w K mg base "follows" 4 (spR R_follows)) : FnOk P w K mg base CX0 6 f fd ["self", "rule"] (spCallR Z.aR) := by
  refine F.ok sc_Rules_call (fun vs H Q E h => ?_) (fun cdv A outer s H vs Q E hr h => ?_)
  · obtain ⟨G, v, u, rs, r, n, rfl, _⟩ := h
    rfl
  obtain ⟨G, v, u, rs, r, n, rfl, eG, hro, hu, hgood, hn6, hval, k⟩ := h
  obtain ⟨p, dx, t, rfl, hp, ht⟩ := hro.ex
  have nd := sc_Rules_call.nd
  refine ⟨_, (pss_cons (ps_expr (pe_fn F_need_rule (hr.mono (by decide)) rfl (pa_cons (pv 1) (pa_cons (peFldK K (pv 0)) pa_nil))))
    (pss_one (ps_ret (pe_fn F_follows (hr.mono (by decide)) rfl (pa_cons (peFldK K (pv 0)) (pa_cons (pv 1) pa_nil)))))), ?_⟩
  show tSeq _ _ _ [some (.ref p), some u] H
  refine (d_call (E := E0) (R := R_needrule) (z := .none) (a_cons (d_var (σ := [some (.ref p), some u]) (i := 1) rfl hu) (a_cons (d_v (v_fld (K := K) (v_var (i := 0) rfl) hp U.cR U.nC (flds_columns n t)) (.int _)) a_nil)) ⟨r, n, rfl, hval, rfl⟩).go eG fun v G1 H1 g1 _ => ?_
  exact s_ret (d_call (a_cons (d_v (v_fld (K := K) (v_var (i := 0) rfl) (g1.g _ _ hp) U.cR U.nK (flds_kept n t)) (ht.up g1.g)) (a_cons (d_var rfl (hu.up g1.g)) a_nil)) ⟨rs, r, rfl, good_of hgood hn6, (valid6 hval hn6).1, (valid6 hval hn6).2, rfl⟩) g1.gh fun v G2 H2 g2 hv => by
    rw [hv.eqB]
    exact k G2 H2 (g1.trans g2)
end
end CP
set_option linter.all false
namespace CM
/-! ### reaching by middle columns -/
def Via (ps : List (Nat × Nat)) : Nat → Nat → Nat → Prop
  | 0, a, b => a = b ∨ (a, b) ∈ ps
  | k + 1, a, b => Via ps k a b ∨ (Via ps k a k ∧ Via ps k k b)
theorem Via.mono {ps : List (Nat × Nat)} {a b : Nat} : ∀ {j k : Nat}, j ≤ k → Via ps j a b → Via ps k a b
  | j, 0, h, v => by
    have : j = 0 := by omega
    subst this; exact v
  | j, k + 1, h, v => by
    by_cases e : j = k + 1
    · subst e; exact v
    · exact .inl (Via.mono (by omega) v)
theorem Via.comp {ps : List (Nat × Nat)} : ∀ (k c : Nat), c < k → ∀ a b, Via ps k a c → Via ps k c b → Via ps k a b
  | 0, c, h, _, _, _, _ => absurd h (Nat.not_lt_zero c)
  | k + 1, c, h, a, b, h1, h2 => by
    by_cases e : c = k
    · subst e
      have x1 : Via ps c a c := h1.elim id fun z => z.1
      have x2 : Via ps c c b := h2.elim id fun z => z.2
      exact .inr ⟨x1, x2⟩
    · have hc : c < k := by omega
      rcases h1 with h1 | ⟨h1, h1'⟩
      · rcases h2 with h2 | ⟨h2, h2'⟩
        · exact .inl (Via.comp k c hc a b h1 h2)
        · exact .inr ⟨Via.comp k c hc a k h1 h2, h2'⟩
      · rcases h2 with h2 | ⟨h2, h2'⟩
        · exact .inr ⟨h1, Via.comp k c hc k b h1' h2⟩
        · exact .inr ⟨h1, h2'⟩
theorem via_of_reach {ps : List (Nat × Nat)} {n a b : Nat} (hps : ∀ p ∈ ps, p.1 < n ∧ p.2 < n) (h : Reach ps a b) : Via ps n a b := by
  induction h with
  | refl => exact Via.mono (Nat.zero_le n) (.inl rfl)
  | step _ e ih => exact Via.comp n _ (hps _ e).1 _ _ ih (Via.mono (Nat.zero_le n) (.inr e))
/-- the matrix in the course of the work: pairs below (k, i, j) in order are through -/
structure FW (ps : List (Nat × Nat)) (n : Nat) (k i j : Nat) (M : Nat → Nat → Bool) : Prop where
  snd : ∀ a b, a < n → b < n → M a b = true → Reach ps a b
  bas : ∀ a b, a < n → b < n → Via ps k a b → M a b = true
  don : ∀ a b, a < n → b < n → (a < i ∨ (a = i ∧ b < j)) → Via ps (k + 1) a b → M a b = true
def setM (M : Nat → Nat → Bool) (i j : Nat) : Nat → Nat → Bool := fun a b => if a = i ∧ b = j then true else M a b
theorem FW.start {ps : List (Nat × Nat)} {n : Nat} {M : Nat → Nat → Bool} (h : ∀ a b, a < n → b < n → (M a b = true ↔ (a = b ∨ (a, b) ∈ ps))) : FW ps n 0 0 0 M :=
  ⟨fun a b ha hb hm => ((h a b ha hb).mp hm).elim (fun e => e ▸ .refl) fun e => .step .refl e, fun a b ha hb v => (h a b ha hb).mpr v, fun a b ha hb q => by omega⟩
theorem FW.set {ps : List (Nat × Nat)} {n k i j : Nat} {M : Nat → Nat → Bool} (f : FW ps n k i j M) (hk : k < n) (hi : i < n) (hj : j < n) (h1 : M i k = true) (h2 : M k j = true) : FW ps n k i (j + 1) (setM M i j) := by
  refine ⟨fun a b ha hb hm => ?_, fun a b ha hb v => ?_, fun a b ha hb q v => ?_⟩
  · unfold setM at hm
    by_cases e : a = i ∧ b = j
    · rw [e.1, e.2]; exact (f.snd i k hi hk h1).trans (f.snd k j hk hj h2)
    · rw [if_neg e] at hm; exact f.snd a b ha hb hm
  · unfold setM
    by_cases e : a = i ∧ b = j
    · rw [if_pos e]
    · rw [if_neg e]; exact f.bas a b ha hb v
  · unfold setM
    by_cases e : a = i ∧ b = j
    · rw [if_pos e]
    · rw [if_neg e]; exact f.don a b ha hb (by omega) v
theorem FW.skip {ps : List (Nat × Nat)} {n k i j : Nat} {M : Nat → Nat → Bool} (f : FW ps n k i j M) (hk : k < n) (hi : i < n) (hj : j < n) (h : ¬ (M i k = true ∧ M k j = true)) : FW ps n k i (j + 1) M := by
  refine ⟨f.snd, f.bas, fun a b ha hb q v => ?_⟩
  by_cases e : a = i ∧ b = j
  · obtain ⟨rfl, rfl⟩ := e
    rcases v with v | ⟨v1, v2⟩
    · exact f.bas a b ha hb v
    · exact absurd ⟨f.bas a k ha hk v1, f.bas k b hk hb v2⟩ h
  · exact f.don a b ha hb (by omega) v
theorem FW.row {ps : List (Nat × Nat)} {n k i : Nat} {M : Nat → Nat → Bool} (f : FW ps n k i n M) : FW ps n k (i + 1) 0 M :=
  ⟨f.snd, f.bas, fun a b ha hb q v => f.don a b ha hb (by omega) v⟩
theorem FW.mid {ps : List (Nat × Nat)} {n k : Nat} {M : Nat → Nat → Bool} (f : FW ps n k n 0 M) : FW ps n (k + 1) 0 0 M :=
  ⟨f.snd, fun a b ha hb v => f.don a b ha hb (.inl ha) v, fun a b ha hb q => by omega⟩
theorem FW.fin {ps : List (Nat × Nat)} {n : Nat} {M : Nat → Nat → Bool} (f : FW ps n n 0 0 M) (hps : ∀ p ∈ ps, p.1 < n ∧ p.2 < n) {a b : Nat} (ha : a < n) (hb : b < n) : M a b = reachB ps a b := by
  by_cases h : Reach ps a b
  · rw [reachB_iff.mpr h]; exact f.bas a b ha hb (via_of_reach hps h)
  · rw [reachB_not.mpr h]
    cases e : M a b with
    | false => rfl
    | true => exact absurd (f.snd a b ha hb e) h
/-! ### the law's arrows -/
noncomputable def backL (rs : List Ru3) (p : Nat × Nat) : Bool := reachB (downsM rs) p.1 p.2 && reachB (downsM rs) p.2 p.1
def firstL (rs : List Ru3) (k : Bool) : List (Nat × Nat) := (rs.filter fun r => decide (r.1 = k)).map fun r => (r.2.1, r.2.2)
noncomputable def arrowsL (rs : List Ru3) (k : Bool) : List (Nat × Nat) := firstL rs k ++ ((firstL rs k).filter (backL rs)).map fun p => (p.2, p.1)
theorem mem_firstL {rs : List Ru3} {k : Bool} {p : Nat × Nat} : p ∈ firstL rs k ↔ (k, p.1, p.2) ∈ rs := by
  unfold firstL
  rw [List.mem_map]
  constructor
  · rintro ⟨⟨k', a, b⟩, h, rfl⟩
    rw [List.mem_filter, decide_eq_true_eq] at h
    obtain ⟨h1, h2⟩ := h
    have h2 : k' = k := h2
    subst h2
    exact h1
  · intro h
    exact ⟨(k, p.1, p.2), List.mem_filter.mpr ⟨h, decide_eq_true rfl⟩, rfl⟩
theorem mem_arrows {rs : List Ru3} {k : Bool} {p : Nat × Nat} : p ∈ arrowsM rs k ↔ p ∈ arrowsL rs k := by
  have key : ∀ a b, (k, a, b) ∈ rs → backB rs k (k, a, b) = backL rs (a, b) := fun a b h => by
    unfold backB backL
    have hd : downM (k, a, b) ∈ downsM rs := List.mem_map_of_mem h
    cases k with
    | true =>
      have h1 : reachB (downsM rs) a b = true := reachB_iff.mpr (.step .refl hd)
      show reachB (downsM rs) b a = (reachB (downsM rs) a b && reachB (downsM rs) b a)
      rw [h1, Bool.true_and]
    | false =>
      have h1 : reachB (downsM rs) b a = true := reachB_iff.mpr (.step .refl hd)
      show reachB (downsM rs) a b = (reachB (downsM rs) a b && reachB (downsM rs) b a)
      rw [h1, Bool.and_true]
  unfold arrowsM arrowsL
  rw [List.mem_flatMap, List.mem_append, List.mem_map]
  constructor
  · rintro ⟨⟨k', a, b⟩, hr, hp⟩
    unfold arrow1 at hp
    by_cases e : k' = k
    · subst e
      rw [if_pos rfl] at hp
      rcases List.mem_cons.mp hp with rfl | hp
      · exact .inl (mem_firstL.mpr hr)
      · rw [key a b hr] at hp
        by_cases hb : backL rs (a, b) = true
        · rw [if_pos hb, List.mem_singleton] at hp
          subst hp
          exact .inr ⟨(a, b), List.mem_filter.mpr ⟨mem_firstL.mpr hr, hb⟩, rfl⟩
        · rw [if_neg hb] at hp; cases hp
    · rw [if_neg e] at hp; cases hp
  · rintro (h | ⟨⟨a, b⟩, h, rfl⟩)
    · refine ⟨_, mem_firstL.mp h, ?_⟩
      unfold arrow1
      rw [if_pos rfl]
      exact List.mem_cons_self
    · rw [List.mem_filter] at h
      have hr := mem_firstL.mp h.1
      refine ⟨_, hr, ?_⟩
      unfold arrow1
      rw [if_pos rfl, key a b hr, if_pos h.2]
      exact List.mem_cons_of_mem _ List.mem_cons_self
theorem follows_eq (rs : List Ru3) (k : Bool) (a b : Nat) : followsM rs (k, a, b) = reachB (arrowsL rs k) a b :=
  reachB_congr ⟨fun h => h.mono fun p hp => mem_arrows.mp hp, fun h => h.mono fun p hp => mem_arrows.mpr hp⟩
theorem firstL_len (rs : List Ru3) (k : Bool) : (firstL rs k).length ≤ rs.length := by
  unfold firstL
  rw [List.length_map]
  exact List.length_filter_le _ _
theorem arrowsL_len (rs : List Ru3) (k : Bool) : (arrowsL rs k).length ≤ 2 * rs.length := by
  unfold arrowsL
  rw [List.length_append, List.length_map]
  have := List.length_filter_le (backL rs) (firstL rs k)
  have := firstL_len rs k
  omega
theorem arrowsL_mem {rs : List Ru3} {k : Bool} {n : Nat} (h : ∀ r ∈ rs, r.2.1 < n ∧ r.2.2 < n) : ∀ p ∈ arrowsL rs k, p.1 < n ∧ p.2 < n := fun p hp => by
  unfold arrowsL at hp
  rcases List.mem_append.mp hp with q | q
  · exact h _ (mem_firstL.mp q)
  · obtain ⟨x, hx, rfl⟩ := List.mem_map.mp q
    have := h _ (mem_firstL.mp (List.mem_filter.mp hx).1)
    exact ⟨this.2, this.1⟩
/-! ### all rules -/
def allOf (n : Nat) (k : Bool) (a : Nat) : List Ru3 := ((List.range n).filter fun b => decide (b ≠ a)).map fun b => (k, a, b)
def allK (n : Nat) (k : Bool) : List Ru3 := (List.range n).flatMap (allOf n k)
def allR (n : Nat) : List Ru3 := allK n true ++ allK n false
theorem mem_allR {n : Nat} {r : Ru3} : r ∈ allR n ↔ r.2.1 < n ∧ r.2.2 < n ∧ r.2.1 ≠ r.2.2 := by
  have hk : ∀ (k : Bool) (r : Ru3), r ∈ allK n k ↔ (r.1 = k ∧ r.2.1 < n ∧ r.2.2 < n ∧ r.2.1 ≠ r.2.2) := fun k ⟨k', a, b⟩ => by
    unfold allK allOf
    simp only [List.mem_flatMap, List.mem_map, List.mem_filter, List.mem_range, decide_eq_true_eq]
    constructor
    · rintro ⟨x, hx, y, ⟨hy, hne⟩, e⟩
      have e1 := (Prod.mk.inj e).1
      have e2 := (Prod.mk.inj (Prod.mk.inj e).2).1
      have e3 := (Prod.mk.inj (Prod.mk.inj e).2).2
      subst e1 e2 e3
      exact ⟨rfl, hx, hy, fun z => hne z.symm⟩
    · rintro ⟨rfl, h1, h2, h3⟩
      exact ⟨a, h1, b, ⟨h2, fun z => h3 z.symm⟩, rfl⟩
  unfold allR
  rw [List.mem_append, hk, hk]
  cases h : r.1 <;> simp
noncomputable def dueM (n : Nat) (rs : List Ru3) : List Ru3 := (allR n).filter fun r => reachB (arrowsL rs r.1) r.2.1 r.2.2
theorem due_iff {n : Nat} {rs : List Ru3} {r : Ru3} (h : r ∈ allR n) : decide (r ∈ dueM n rs) = followsM rs r := by
  obtain ⟨k, a, b⟩ := r
  rw [follows_eq]
  unfold dueM
  cases e : reachB (arrowsL rs k) a b with
  | true => exact decide_eq_true (List.mem_filter.mpr ⟨h, e⟩)
  | false =>
    refine decide_eq_false fun z => ?_
    have z2 : reachB (arrowsL rs k) a b = true := (List.mem_filter.mp z).2
    rw [e] at z2
    cases z2
theorem allR6_nodup : ∀ n, n ≤ 6 → (allR n).Nodup := by decide
theorem allR_len : ∀ n, n ≤ 6 → (allR n).length ≤ 60 := by decide
theorem allR6_len : (allR 6).length = 60 := by decide
end CM
set_option Elab.async false
set_option linter.all false
set_option maxRecDepth 100000
set_option maxHeartbeats 4000000
/-! Expressions that draw from a source: a list of three whole numbers that may change. -/
namespace CL
open PySem L2 CM
structure Src (G H : Hp) (s : Addr) : Prop where
  g : G s = none
  at_ : ∃ a b c : Int, H s = some (.lst [.int a, .int b, .int c])
def Ms (s : Addr) : Addr → Prop := fun a => a = s
section
variable {s : Addr} {G H G2 H2 : Hp}
theorem Src.there (m : Src G H s) : H s ≠ none := by
  obtain ⟨_, a, b, c, h⟩ := m
  rw [h]; exact fun z => nomatch z
theorem Src.grow {M : Addr → Prop} (m : Src G H s) (g : Grow M G H G2 H2) (hm : ¬ M s) : Src G2 H2 s := by
  obtain ⟨a, b, c, d, h⟩ := id m
  exact ⟨g.new s m.there a, b, c, d, g.keep s _ hm h⟩
theorem Src.grow0 (m : Src G H s) (g : Grow M0 G H G2 H2) : Src G2 H2 s := m.grow g fun z => z
theorem Src.ofML {a b c : Int} (m : ML G H s [.int a, .int b, .int c]) : Src G H s := by
  obtain ⟨h0, xs, hx, hd⟩ := m
  have e := DDs.ints (ns := [a, b, c]) hd
  subst e
  exact ⟨h0, a, b, c, hx⟩
theorem Src.ml (m : Src G H s) : ∃ a b c : Int, ML G H s [.int a, .int b, .int c] := by
  obtain ⟨h0, a, b, c, h⟩ := m
  exact ⟨a, b, c, h0, _, h, .cons (.int a) (.cons (.int b) (.cons (.int c) .nil))⟩
theorem Src.ne {l : Addr} (m : Src G H s) (h : H l = none) : l ≠ s := fun z => m.there (z ▸ h)
theorem Grow.ofMs (g : Grow M0 G H G2 H2) : Grow (Ms s) G H G2 H2 := g.of0
end
/-- te, drawing from s, gives some data of S -/
def EvN (s : Addr) (te : TE) (σ : VSt) (G : Hp) (S : PyData → Prop) : Prop := ∀ G1 H1, Ex G G1 → Ex G1 H1 → Src G1 H1 s → ∀ Q : VK, (∀ v d G2 H2, S d → Grow (Ms s) G1 H1 G2 H2 → Src G2 H2 s → DD G2 v d → Q v H2) → te σ H1 Q
def EvNA (s : Addr) (ta : TA) (σ : VSt) (G : Hp) (A : List PyData → Prop) : Prop := ∀ G1 H1, Ex G G1 → Ex G1 H1 → Src G1 H1 s → ∀ Q : List V → Hp → Prop, (∀ vs ds G2 H2, A ds → Grow (Ms s) G1 H1 G2 H2 → Src G2 H2 s → DDs G2 vs ds → Q vs H2) → ta σ H1 Q
/-- .. a new list that may change -/
def EvNM (s : Addr) (te : TE) (σ : VSt) (G : Hp) (A : List PyData → Prop) : Prop := ∀ G1 H1, Ex G G1 → Ex G1 H1 → Src G1 H1 s → ∀ Q : VK, (∀ p ds G2 H2, A ds → H1 p = none → Grow (Ms s) G1 H1 G2 H2 → Src G2 H2 s → ML G2 H2 p ds → Q (.ref p) H2) → te σ H1 Q
def EvNB (s : Addr) (tt : TT) (σ : VSt) (G : Hp) (B : Bool → Prop) : Prop := ∀ G1 H1, Ex G G1 → Ex G1 H1 → Src G1 H1 s → ∀ Q : Bool → Hp → Prop, (∀ b G2 H2, B b → Grow (Ms s) G1 H1 G2 H2 → Src G2 H2 s → Q b H2) → tt σ H1 Q
/-- the promise of a def that draws -/
def spN (R : List PyData → (PyData → Prop) → Prop) : Sp := fun vs H Q _ => ∃ G s us ds S, vs = .ref s :: us ∧ R ds S ∧ Ex G H ∧ Src G H s ∧ DDs G us ds ∧ ∀ v d G2 H2, S d → Grow (Ms s) G H G2 H2 → Src G2 H2 s → DD G2 v d → Q v H2
theorem spN_len {R : List PyData → (PyData → Prop) → Prop} {n : Nat} (hR : ∀ ds S, R ds S → ds.length = n) {vs : List V} {H : Hp} {Q : VK} {E : XK} (h : spN R vs H Q E) : vs.length = n + 1 := by
  obtain ⟨G, s, us, ds, S, rfl, r, _, _, hd, _⟩ := h
  rw [List.length_cons, hd.length, hR ds S r]
section
variable {s : Addr} {σ : VSt} {G G' H : Hp} {ta tb tc te : TE} {t u : TT} {d e z : PyData} {S S' : PyData → Prop} {r : R2} {K : PySem.W.Frag} {tr : TA}
theorem n_s (h : EvS te σ G S) : EvN s te σ G S := fun G1 H1 e1 e2 m Q q => h G1 H1 e1 e2 Q fun v d G2 H2 hs g hv => q v d G2 H2 hs g.of0 (m.grow0 g) hv
theorem n_d (h : EvD te σ G d) : EvN s te σ G (fun x => x = d) := n_s h
theorem n_weak (h : EvN s te σ G S) (w : ∀ d, S d → S' d) : EvN s te σ G S' := fun G1 H1 e1 e2 m Q q => h G1 H1 e1 e2 m Q fun v d G2 H2 hs g m2 hv => q v d G2 H2 (w d hs) g m2 hv
theorem EvN.mono (e : Ex G G') (h : EvN s te σ G S) : EvN s te σ G' S := fun G1 H1 a => h G1 H1 (e.trans a)
theorem na_nil : EvNA s tNil σ G (fun ds => ds = []) := fun G1 H1 _ e2 m Q q => q [] [] G1 H1 rfl (Grow.refl e2) m .nil
theorem na_cons {A : List PyData → Prop} (h : EvN s te σ G S) (hr : EvNA s tr σ G A) : EvNA s (tCons te tr) σ G (fun ds => ∃ d es, ds = d :: es ∧ S d ∧ A es) := fun G1 H1 e1 e2 m Q q =>
  h G1 H1 e1 e2 m _ fun v d G2 H2 hs g m2 hv => hr G2 H2 (e1.trans g.g) g.gh m2 _ fun vs ds G3 H3 ha g3 m3 hvs => q _ _ G3 H3 ⟨d, ds, rfl, hs, ha⟩ (g.trans g3) m3 (.cons (hv.up g3.g) hvs)
theorem na_d {ds : List PyData} (h : EvA tr σ G ds) : EvNA s tr σ G (fun x => x = ds) := fun G1 H1 e1 e2 m Q q => h G1 H1 e1 e2 _ fun vs G2 H2 g hvs => q vs ds G2 H2 rfl g.of0 (m.grow0 g) hvs
/-- a call that hands the source on; the other arguments do not draw -/
theorem n_call {R : List PyData → (PyData → Prop) → Prop} {E : XK} {ds : List PyData} (hv : EvV te σ G (.ref s)) (h : EvA tr σ G ds) (hR : R ds S) : EvN s (tCall (spN R) [] E (tCons te tr)) σ G S := fun G1 H1 e1 e2 m Q q =>
  hv G1 H1 e1 e2 _ fun G2 H2 g2 => h G2 H2 (e1.trans g2.g) g2.gh _ fun vs G3 H3 g3 hvs => by
    show spN R ((V.ref s :: vs) ++ []) H3 Q E
    rw [List.append_nil]
    exact ⟨G3, s, vs, ds, S, rfl, hR, g3.gh, m.grow0 (g2.trans g3), hvs, fun v d G4 H4 hs g4 m4 hv => q v d G4 H4 hs ((g2.trans g3).of0.trans g4) m4 hv⟩
/-- a call that does not draw, its arguments may -/
theorem n_callS {R : List PyData → (PyData → Prop) → Prop} {E : XK} {A : List PyData → Prop} (h : EvNA s tr σ G A) (hR : ∀ ds, A ds → R ds S) : EvN s (tCall (spR R) [] E tr) σ G S := fun G1 H1 e1 e2 m Q q =>
  h G1 H1 e1 e2 m _ fun vs ds G2 H2 ha g m2 hvs => by
    rw [List.append_nil]
    exact ⟨G2, ds, S, hR ds ha, g.gh, hvs, fun v d G3 H3 hs g3 hv => q v d G3 H3 hs (g.then0 g3) (m2.grow0 g3) hv⟩
/-- an operation whose left side may draw -/
theorem n_op {S1 S2 : PyData → Prop} (ha : EvN s ta σ G S1) (hb : EvN s tb σ G S2) (hr : ∀ d e, S1 d → S2 e → ∃ z, S z ∧ RvD r d e z) : EvN s (tOp r ta tb) σ G S := fun G1 H1 e1 e2 m Q q =>
  ha G1 H1 e1 e2 m _ fun x d G2 H2 h1 g2 m2 hx => hb G2 H2 (e1.trans g2.g) g2.gh m2 _ fun y e G3 H3 h2 g3 m3 hy => by
    obtain ⟨z, hz, hr⟩ := hr d e h1 h2
    exact hr G3 H3 g3.gh x y (hx.up g3.g) hy Q fun v G4 H4 g4 hv => q v z G4 H4 hz ((g2.trans g3).then0 g4) (m3.grow0 g4) hv
theorem nb_d {b : Bool} (h : EvB t σ G b) : EvNB s t σ G (fun x => x = b) := fun G1 H1 e1 e2 m Q q => h G1 H1 e1 e2 _ fun G2 H2 g => q b G2 H2 rfl g.of0 (m.grow0 g)
theorem nb_test (h : EvN s te σ G (fun d => ∃ b, d = .bool b)) : EvNB s (tTest te) σ G (fun _ => True) := fun G1 H1 e1 e2 m Q q => h G1 H1 e1 e2 m _ fun v d G2 H2 ⟨b, hb⟩ g m2 hv => by
  subst hb
  obtain rfl := hv.eqB
  exact ⟨b, rfl, q b G2 H2 trivial g m2⟩
theorem n_if {B : Bool → Prop} (h : EvNB s t σ G B) (h1 : EvN s ta σ G S) (h2 : EvN s tb σ G S) : EvN s (tIf t ta tb) σ G S := fun G1 H1 e1 e2 m Q q => h G1 H1 e1 e2 m _ fun b G2 H2 _ g m2 => by
  cases b with
  | true => exact h1 G2 H2 (e1.trans g.g) g.gh m2 Q fun v d G3 H3 s g3 m3 hv => q v d G3 H3 s (g.trans g3) m3 hv
  | false => exact h2 G2 H2 (e1.trans g.g) g.gh m2 Q fun v d G3 H3 s g3 m3 hv => q v d G3 H3 s (g.trans g3) m3 hv
theorem EvNM.toN {A : List PyData → Prop} (h : EvNM s te σ G A) : EvN s te σ G (fun d => ∃ ds, A ds ∧ d = .list ds) := fun G1 H1 e1 e2 m Q q => h G1 H1 e1 e2 m Q fun p ds G2 H2 ha hp g m2 ml => by
  obtain ⟨G3, g3, e3, hd, oth⟩ := ml.fin g hp
  refine q _ _ _ _ ⟨ds, ha, rfl⟩ g3 ?_ hd
  obtain ⟨a, b, c, m3⟩ := m2.ml
  exact Src.ofML (oth s _ (fun z => m.there (z ▸ hp)) m3)
theorem nm_m {ds : List PyData} (h : EvM te σ G ds) : EvNM s te σ G (fun x => x = ds) := fun G1 H1 e1 e2 m Q q => h G1 H1 e1 e2 Q fun p G2 H2 hp g ml => q p ds G2 H2 rfl hp g.of0 (m.grow0 g) ml
/-- l[lo:hi] of a list, the bounds may draw: a part of it -/
def EvNO (s : Addr) (to : TO) (σ : VSt) (G : Hp) : Prop := ∀ G1 H1, Ex G G1 → Ex G1 H1 → Src G1 H1 s → ∀ Q : Option Int → Hp → Prop, (∀ o G2 H2, Grow (Ms s) G1 H1 G2 H2 → Src G2 H2 s → Q o H2) → to σ H1 Q
theorem no_none : EvNO s tNoPart σ G := fun G1 H1 _ e2 m Q q => q none G1 H1 (Grow.refl e2) m
theorem no_some (h : EvN s te σ G (fun d => ∃ i, d = .int i)) : EvNO s (tPart te) σ G := fun G1 H1 e1 e2 m Q q => h G1 H1 e1 e2 m _ fun v d G2 H2 ⟨i, hi⟩ g m2 hv => by
  subst hi
  obtain rfl := hv.eqI
  exact ⟨i, rfl, q _ G2 H2 g m2⟩
theorem nm_sl {tl th : TO} {ds : List PyData} (h : EvN s te σ G (fun d => d = .list ds)) (h1 : EvNO s tl σ G) (h2 : EvNO s th σ G) : EvNM s (tSl (rSlL K) te tl th) σ G (fun es => ∃ lo hi, es = cutD ds lo hi) := fun G1 H1 e1 e2 m Q q =>
  h G1 H1 e1 e2 m _ fun v d G2 H2 hd g m2 hv => h1 G2 H2 (e1.trans g.g) g.gh m2 _ fun lo G3 H3 g3 m3 => h2 G3 H3 ((e1.trans g.g).trans g3.g) g3.gh m3 _ fun hi G4 H4 g4 m4 => by
    subst hd
    obtain ⟨a, xs, rfl, hp, hx⟩ := hv.eqL
    refine ⟨a, xs, rfl, .inl (.inl (g4.gh _ _ (g4.g _ _ (g3.g _ _ hp)))), fun p hp2 => ?_⟩
    have hx4 : DDs G4 (cutV xs lo hi) (cutD ds lo hi) := by
      have z := (hx.up (g3.g.trans g4.g))
      unfold cutV cutD
      rw [hx.length]
      exact (z.drop _).take _
    have g14 := (g.trans g3).trans g4
    exact q p _ _ _ ⟨lo, hi, rfl⟩ (g14.there p hp2) (g14.trans (Grow.mnew g4.gh hp2)) (m4.grow (Grow.mnew (M := M0) g4.gh hp2) fun z => z) (ML.new g4.gh hp2 hx4)
end
/-! ### statements -/
section
variable {s : Addr} {σ : VSt} {G H : Hp} {ta tb te tl : TE} {t : TT} {d : PyData} {S : PyData → Prop} {K : PySem.W.Frag} {D : Ends} {tu tw tz : TS} {g : TG}
theorem q_asgN {i : Nat} (h : EvN s te σ G S) (e : Ex G H) (m : Src G H s) (k : ∀ v d G2 H2, S d → Grow (Ms s) G H G2 H2 → Src G2 H2 s → DD G2 v d → tz D (σ.set i (some v)) H2) : tSeq (tAsg te (gName i)) tz D σ H := h G H (Ex.refl G) e m _ k
theorem s_asgN {i : Nat} (h : EvN s te σ G S) (e : Ex G H) (m : Src G H s) (k : ∀ v d G2 H2, S d → Grow (Ms s) G H G2 H2 → Src G2 H2 s → DD G2 v d → D.nx (σ.set i (some v)) H2) : tAsg te (gName i) D σ H := h G H (Ex.refl G) e m _ k
theorem q_asgNM {i : Nat} {A : List PyData → Prop} (h : EvNM s te σ G A) (e : Ex G H) (m : Src G H s) (k : ∀ p ds G2 H2, A ds → H p = none → Grow (Ms s) G H G2 H2 → Src G2 H2 s → ML G2 H2 p ds → tz D (σ.set i (some (.ref p))) H2) : tSeq (tAsg te (gName i)) tz D σ H := h G H (Ex.refl G) e m _ k
theorem s_asgNM {i : Nat} {A : List PyData → Prop} (h : EvNM s te σ G A) (e : Ex G H) (m : Src G H s) (k : ∀ p ds G2 H2, A ds → H p = none → Grow (Ms s) G H G2 H2 → Src G2 H2 s → ML G2 H2 p ds → D.nx (σ.set i (some (.ref p))) H2) : tAsg te (gName i) D σ H := h G H (Ex.refl G) e m _ k
theorem s_retN (h : EvN s te σ G S) (e : Ex G H) (m : Src G H s) (k : ∀ v d G2 H2, S d → Grow (Ms s) G H G2 H2 → Src G2 H2 s → DD G2 v d → D.rt v H2) : tRet te D σ H := h G H (Ex.refl G) e m _ k
theorem s_ifN {B : Bool → Prop} (h : EvNB s t σ G B) (e : Ex G H) (m : Src G H s) (k : ∀ b G2 H2, B b → Grow (Ms s) G H G2 H2 → Src G2 H2 s → if b = true then tu D σ H2 else tw D σ H2) : tIfS t tu tw D σ H := h G H (Ex.refl G) e m _ k
/-- l.append(e), e may draw -/
theorem s_appN {l : Addr} {ds : List PyData} (ho : EvV ta σ G (.ref l)) (m : ML G H l ds) (hne : l ≠ s) (h : EvN s te σ G S) (e : Ex G H) (ms : Src G H s) (hz : ds.length < 100000)
    (k : ∀ d G2 H2, S d → Grow (fun a => a = l ∨ a = s) G H G2 H2 → Src G2 H2 s → ML G2 H2 l (ds ++ [d]) → D.nx σ H2) :
    tDrop (tBM K "list" rAppend ta (tCons te tNil)) D σ H := ho G H (Ex.refl G) e _ fun G1 H1 g1 => by
  obtain ⟨_, xs, h1, _⟩ := m.grow0 g1
  refine ⟨.inl ⟨rfl, xs, .inl (.inl h1)⟩, h G1 H1 g1.g g1.gh (ms.grow0 g1) _ fun v d G2 H2 hS g2 ms2 hv => ?_⟩
  have m2 := (m.grow0 g1).grow g2 (fun z => hne z)
  obtain ⟨g0, ys, h2, d2⟩ := id m2
  refine ⟨l, ys, v, rfl, rfl, h2, Evl.sz_lt (by rw [d2.length]; exact hz), ?_⟩
  obtain ⟨g3, m3⟩ := m2.set (xs := ys ++ [v]) g2.gh (d2.append (.one hv))
  exact k d G2 _ hS (((g1.of0).trans (g2.weak fun x z => .inr z)).trans (g3.weak fun x z => .inl z)) (ms2.grow g3 fun z => hne z.symm) m3
theorem q_appN {l : Addr} {ds : List PyData} (ho : EvV ta σ G (.ref l)) (m : ML G H l ds) (hne : l ≠ s) (h : EvN s te σ G S) (e : Ex G H) (ms : Src G H s) (hz : ds.length < 100000)
    (k : ∀ d G2 H2, S d → Grow (fun a => a = l ∨ a = s) G H G2 H2 → Src G2 H2 s → ML G2 H2 l (ds ++ [d]) → tz D σ H2) :
    tSeq (tDrop (tBM K "list" rAppend ta (tCons te tNil))) tz D σ H := s_appN (D := { D with nx := tz D }) ho m hne h e ms hz k
theorem Grow.priv2 {M : Addr → Prop} {l : Addr} {G0 H0 G1 H1 G2 H2 : Hp} (a : Grow (Ms s) G0 H0 G1 H1) (b : Grow (fun x => x = l ∨ x = s) G1 H1 G2 H2) (h : H0 l = none) : Grow (Ms s) G0 H0 G2 H2 :=
  ⟨a.g.trans b.g, b.gh, fun x o hm q => b.keep x o (fun z => z.elim (fun z => by rw [z, h] at q; cases q) hm) (a.keep x o hm q), fun x q => a.there x (b.there x q), fun x q1 q2 => b.new x (fun z => q1 (a.there x z)) (a.new x q1 q2)⟩
end
/-! ### a comprehension over range(n) that draws -/
section
variable {s : Addr} {σ : VSt} {G H : Hp} {te : TE} {K : PySem.W.Frag} {g : TG} {vs : List Nat}
theorem nm_lcR {ra : TA} {n : Nat} {S : PyData → Prop} (h : EvA ra σ G [.int (n : Int)]) (hl : n ≤ 50000)
    (hg : ∀ (x : Nat) (G1 H1 : Hp), x < n → Ex G G1 → Ex G1 H1 → ∀ Q : VSt → Hp → Prop, (∀ σ2, wipe σ2 vs = wipe σ vs → EvN s te σ2 G1 S → Q σ2 H1) → g (.int (x : Int)) (wipe σ vs) H1 Q) :
    EvNM s (tLc (iRng1 ra) g tYes te vs) σ G (fun ds => ds.length ≤ n ∧ ∀ d ∈ ds, S d) := fun G1 H1 e1 e2 m Q q =>
  h G1 H1 e1 e2 _ fun vs' G2 H2 g2 hv => by
    obtain ⟨v, r, rfl, hv1, hr⟩ := hv.inv
    obtain rfl := hr.inv0
    obtain rfl := hv1.eqI
    refine ⟨(n : Int), rfl, by omega, by omega, fun D hD => ?_⟩
    have e0 : ((n : Int)).toNat = n := by omega
    rw [e0]
    have m2 := m.grow0 g2
    have hDs : D ≠ s := fun z => m2.there (z ▸ hD)
    refine lc_range (lo := 0) (n := n) (fun i H' => ∃ G' ds, Grow (Ms s) G2 H2 G' H' ∧ Src G' H' s ∧ ML G' H' D ds ∧ ds.length ≤ i ∧ ∀ d ∈ ds, S d)
      ⟨G2, [], Grow.mnew g2.gh hD, m2.grow (Grow.mnew (M := M0) g2.gh hD) (fun z => z), ML.new g2.gh hD .nil, Nat.le_refl _, fun d hd => by cases hd⟩ (fun i H' hi ⟨G', ds, gr, ms, ml, hlen, hS⟩ => ?_) (fun H' ⟨G', ds, gr, ms, ml, hlen, hS⟩ => ?_)
    · have ez : (0 : Int) + (i : Int) = (i : Int) := Int.zero_add _
      rw [ez]
      refine hg i G' H' hi ((e1.trans g2.g).trans gr.g) gr.gh _ fun σ2 hw he => ⟨hw, ?_⟩
      show te σ2 H' _
      refine he G' H' (Ex.refl _) gr.gh ms _ fun y d G4 H4 hd g4 m4 hy => ?_
      have ml4 := ml.grow g4 (fun z => hDs z)
      obtain ⟨g0, ys, h2, d2⟩ := id ml4
      refine ⟨ys, h2, Evl.sz_lt (by rw [d2.length]; omega), ?_⟩
      obtain ⟨g5, m5⟩ := ml4.set (xs := ys ++ [y]) g4.gh (d2.append (.one hy))
      refine ⟨G4, ds ++ [d], ?_, m4.grow g5 (fun z => hDs z.symm), m5, by rw [List.length_append]; simp; omega, fun x hx => ?_⟩
      · exact (gr.trans g4).priv2 (M := M0) (g5.weak fun x z => .inl z) hD
      · rcases List.mem_append.mp hx with z | z
        · exact hS x z
        · rw [List.mem_singleton] at z; rw [z]; exact hd
    · exact q D ds _ _ ⟨hlen, hS⟩ (g2.there _ hD) (g2.of0.trans gr) ms ml
end
end CL
set_option Elab.async false
set_option linter.all false
set_option maxRecDepth 100000
set_option maxHeartbeats 4000000
namespace CL
open PySem L2 CM
theorem lc_enum {K : PySem.W.Frag} {a : Addr} {xs : List V} {g : TG} {tt : TT} {te : TE} {vs : List Nat} {σ : VSt} {H1 : Hp} {D : Addr} {Qd : Hp → Prop} (Pv : Nat → Hp → Prop) (h0 : Pv 0 (upd H1 D (.lst []))) (hl : ∀ i H, i ≤ xs.length → Pv i H → SqL K H a xs)
    (hs : ∀ i x H T, xs[i]? = some x → Pv i H → H T = none → g (.ref T) (wipe σ vs) (upd H T (.tup [.int (i : Nat), x])) fun σ2 H2 => wipe σ2 vs = wipe σ vs ∧ tt σ2 H2 fun b H3 =>
      if b = true then te σ2 H3 fun y H4 => ∃ acc, H4 D = some (.lst acc) ∧ acc.length < sizeLine ∧ Pv (i + 1) (upd H4 D (.lst (acc ++ [y]))) else Pv (i + 1) H3) (hd : ∀ H, Pv xs.length H → Qd H) :
    ∃ W : Nat → Nat → Hp → Prop, (∃ m, W 0 m (upd H1 D (.lst []))) ∧ ∀ i m H, W i m H →
      ((Ite K a).stop i H ∧ Qd H) ∨ ((Ite K a).go i H ∧ ∃ Nx : Hp → Prop, (∀ H', Nx H' → ∃ m', m' < m ∧ W (i + 1) m' H') ∧ ∀ x H', (Ite K a).yld i H x H' → g x (wipe σ vs) H' fun σ2 H2 => wipe σ2 vs = wipe σ vs ∧ tt σ2 H2 fun b H3 =>
        if b = true then te σ2 H3 fun y H4 => ∃ acc, H4 D = some (.lst acc) ∧ acc.length < sizeLine ∧ Nx (upd H4 D (.lst (acc ++ [y]))) else Nx H3) := by
  refine ⟨fun i m H => m = xs.length - i ∧ i ≤ xs.length ∧ Pv i H, ⟨xs.length, by simp, Nat.zero_le _, h0⟩, ?_⟩
  rintro i m H ⟨rfl, hi, p⟩
  have q := hl i H hi p
  by_cases hlt : i < xs.length
  · refine .inr ⟨⟨xs, xs[i], q, by simp [hlt]⟩, Pv (i + 1), fun H' p' => ⟨xs.length - (i + 1), by omega, rfl, hlt, p'⟩, fun x H' y => ?_⟩
    obtain ⟨T, x', e1, hT, e2, y⟩ := y
    subst e1 e2
    exact hs i x' _ T (y xs q) p hT
  · have e : i = xs.length := by omega
    subst e
    exact .inl ⟨⟨xs, q, Nat.le_refl _⟩, hd H p⟩
section
variable {σ : VSt} {G H : Hp} {te tl : TE} {ta : TA} {tt : TT} {K : PySem.W.Frag} {g : TG} {vs : List Nat}
/-- [f for i, x in enumerate(xs) if p] -/
theorem m_lcE {α : Type} {enc : α → PyData} {xs : List α} (p : Nat → Bool) (f : Nat → PyData) (h : EvA ta σ G [.list (xs.map enc)]) (hl : xs.length ≤ 50000)
    (hg : ∀ (i : Nat) (x : α) (v : V) (G1 H1 : Hp), xs[i]? = some x → Ex G G1 → Ex G1 H1 → DD G1 v (.tuple [I1 i, enc x]) → ∀ Q : VSt → Hp → Prop, (∀ σ2, wipe σ2 vs = wipe σ vs → EvB tt σ2 G1 (p i) → (p i = true → EvD te σ2 G1 (f i)) → Q σ2 H1) → g v (wipe σ vs) H1 Q) :
    EvM (tLc (iEnum K ta) g tt te vs) σ G (((List.range xs.length).filter p).map f) := fun G1 H1 e1 e2 Q q =>
  h G1 H1 e1 e2 _ fun vs' G2 H2 g2 hv => by
    obtain ⟨v, r, rfl, hv1, hr⟩ := hv.inv
    obtain rfl := hr.inv0
    obtain ⟨a, ys, rfl, hp, hy⟩ := hv1.eqL
    refine ⟨a, ys, rfl, .inl (.inl (g2.gh _ _ hp)), fun D hD => ?_⟩
    have hlen : ys.length = xs.length := by rw [hy.length, List.length_map]
    refine lc_enum (K := K) (a := a) (xs := ys) (fun i H' => ∃ G', Cw G2 H2 D H2 ((((List.range xs.length).take i).filter p).map f) G' H') ⟨G2, Cw.start g2.gh hD⟩ (fun i H' _ ⟨G', c⟩ => .inl (.inl (c.gr.gh _ _ (c.gr.g _ _ hp)))) (fun i x H' T hi ⟨G', c⟩ hT => ?_) (fun H' ⟨G', c⟩ => ?_)
    · have hi' : i < xs.length := by rw [← hlen]; exact (List.getElem?_eq_some_iff.mp hi).1
      obtain ⟨d, hd, hxd⟩ := hy.at hi
      rw [List.getElem?_map, List.getElem?_eq_getElem hi'] at hd
      have ed : enc xs[i] = d := Option.some.inj hd
      subst ed
      have hx' := hxd.up c.gr.g
      have gT : Grow M0 G' H' (upd G' T (.tup [.int (i : Nat), x])) (upd H' T (.tup [.int (i : Nat), x])) := Grow.laid c.gr.gh hT
      have hDT : D ≠ T := fun z => c.ml.there (z ▸ hT)
      have cT : Cw G2 H2 D H2 ((((List.range xs.length).take i).filter p).map f) (upd G' T (.tup [.int (i : Nat), x])) (upd H' T (.tup [.int (i : Nat), x])) := by
        obtain ⟨gr, g0, hD, xs', hx, hd⟩ := c
        exact ⟨gr.trans gT, by rw [upd_ne hDT]; exact g0, hD, xs', by rw [upd_ne hDT]; exact hx, hd.up gT.g⟩
      refine hg i xs[i] (.ref T) _ _ (List.getElem?_eq_getElem hi') ((e1.trans g2.g).trans cT.gr.g) cT.gr.gh (.tup (.inl upd_same) (.cons (.int _) (.one (hx'.up gT.g)))) _ fun σ2 hw ht he => ⟨hw, ?_⟩
      have hi2 : (List.range xs.length)[i]? = some i := by rw [List.getElem?_range hi']
      exact cT.turn (by have := filter_len ((List.range xs.length).take i) p f; rw [List.length_take, List.length_range] at this; omega) ht he fun G3 H3 c3 => ⟨G3, by rw [filter_step (List.range xs.length) p f i i hi2]; exact c3⟩
    · have e : (List.range xs.length).take ys.length = List.range xs.length := by rw [List.take_of_length_le]; rw [List.length_range, hlen]; exact Nat.le_refl _
      rw [e] at c
      exact q _ _ _ (g2.there _ hD) (g2.trans c.gr) c.ml
end
/-- three names at once, the third a new list -/
theorem q_trio {s : Addr} {σ : VSt} {G H : Hp} {ta tb tc : TE} {S1 S2 : PyData → Prop} {ds : List PyData} {K : PySem.W.Frag} {D : Ends} {tz : TS} {i j l : Nat} (ha : EvN s ta σ G S1) (hb : EvN s tb σ G S2) (hc : EvM tc σ G ds) (e : Ex G H) (m : Src G H s)
    (k : ∀ v1 d1 v2 d2 p G2 H2, S1 d1 → S2 d2 → H p = none → Grow (Ms s) G H G2 H2 → Src G2 H2 s → DD G2 v1 d1 → DD G2 v2 d2 → ML G2 H2 p ds → tz D (((σ.set i (some v1)).set j (some v2)).set l (some (.ref p))) H2) :
    tSeq (tAsg (tTup (tCons ta (tCons tb (tCons tc tNil)))) (gTup K 3 (gCons (gName i) (gCons (gName j) (gCons (gName l) gNil))))) tz D σ H := by
  show ta σ H _
  refine ha G H (Ex.refl G) e m _ fun v1 d1 G1 H1 s1 g1 m1 h1 => ?_
  show tb σ H1 _
  refine hb G1 H1 g1.g g1.gh m1 _ fun v2 d2 G2 H2 s2 g2 m2 h2 => ?_
  show tc σ H2 _
  refine hc G2 H2 (g1.g.trans g2.g) g2.gh _ fun p G3 H3 hp g3 ml => ?_
  have m3 := m2.grow0 g3
  refine ⟨Evl.sz_of (by show 3 ≤ 100000; decide), fun t ht => ?_⟩
  have gt : Grow M0 G3 H3 G3 (upd H3 t (.tup [v1, v2, .ref p])) := Grow.mnew g3.gh ht
  exact ⟨t, _, rfl, .inl (.inl upd_same), rfl, _, _, rfl, _, _, rfl, _, _, rfl, rfl, k v1 d1 v2 d2 p G3 _ s1 s2 ((g1.trans g2).there p hp) (((g1.trans g2).then0 g3).then0 gt) (m3.grow0 gt) (h1.up (g2.g.trans g3.g)) (h2.up g3.g) (ml.grow0 gt)⟩
theorem q_parNN {s : Addr} {σ : VSt} {G H : Hp} {ta tb : TE} {S1 S2 : PyData → Prop} {D : Ends} {tz : TS} {i j : Nat} (ha : EvN s ta σ G S1) (hb : EvN s tb σ G S2) (e : Ex G H) (m : Src G H s)
    (k : ∀ v1 d1 v2 d2 G2 H2, S1 d1 → S2 d2 → Grow (Ms s) G H G2 H2 → Src G2 H2 s → DD G2 v1 d1 → DD G2 v2 d2 → tz D ((σ.set i (some v1)).set j (some v2)) H2) : tSeq (tPar i j (tCons ta (tCons tb tNil))) tz D σ H :=
  ha G H (Ex.refl G) e m _ fun v1 d1 G1 H1 s1 g1 m1 h1 => hb G1 H1 g1.g g1.gh m1 _ fun v2 d2 G2 H2 s2 g2 m2 h2 => ⟨v1, v2, rfl, k v1 d1 v2 d2 G2 H2 s1 s2 (g1.trans g2) m2 (h1.up g2.g) h2⟩
/-- a part of a list -/
theorem cut_map {α : Type} (f : α → PyData) (xs : List α) (lo hi : Option Int) : ∃ ys : List α, cutD (xs.map f) lo hi = ys.map f ∧ ys.Sublist xs := by
  unfold cutD
  rw [← List.map_drop, ← List.map_take]
  exact ⟨_, rfl, (List.take_sublist _ _).trans (List.drop_sublist _ _)⟩
end CL
namespace CM
/-- the items that do not stand before -/
def firstly {α : Type} [DecidableEq α] (d : α) (xs : List α) : List Nat := (List.range xs.length).filter fun i => decide (xs.getD i d ∉ xs.take i)
theorem firstly_nodup {α : Type} [DecidableEq α] (d : α) (xs : List α) : ((firstly d xs).map fun i => xs.getD i d).Nodup := by
  unfold firstly List.Nodup
  rw [List.pairwise_map]
  refine List.Pairwise.imp_of_mem (R := fun i j => i < j) (fun {i j} hi hj hij e => ?_) ((List.pairwise_lt_range (n := xs.length)).filter _)
  have hj' := List.mem_filter.mp hj
  have hi' := List.mem_range.mp (List.mem_filter.mp hi).1
  have hn : xs.getD j d ∉ xs.take j := of_decide_eq_true hj'.2
  refine hn (e ▸ ?_)
  rw [List.getD_eq_getElem?_getD, List.getElem?_eq_getElem hi']
  show xs[i] ∈ xs.take j
  rw [List.mem_take_iff_getElem]
  exact ⟨i, by omega, rfl⟩
theorem firstly_mem {α : Type} [DecidableEq α] (d : α) (xs : List α) {x : α} (h : x ∈ (firstly d xs).map fun i => xs.getD i d) : x ∈ xs := by
  obtain ⟨i, hi, rfl⟩ := List.mem_map.mp h
  have hi' := List.mem_range.mp (List.mem_filter.mp hi).1
  show xs.getD i d ∈ xs
  rw [List.getD_eq_getElem?_getD, List.getElem?_eq_getElem hi']
  exact List.getElem_mem hi'
theorem firstly_len {α : Type} [DecidableEq α] (d : α) (xs : List α) : ((firstly d xs).map fun i => xs.getD i d).length ≤ xs.length := by
  rw [List.length_map]
  have := List.length_filter_le (fun i => decide (xs.getD i d ∉ xs.take i)) (List.range xs.length)
  rw [List.length_range] at this
  exact this
end CM
set_option Elab.async false
set_option linter.all false
set_option maxRecDepth 100000
set_option maxHeartbeats 4000000
namespace CL
open PySem L2 CM
section
variable {σ : VSt} {G H : Hp} {ta tb te : TE} {d : PyData} {D : Ends} {tz : TS} {l : Addr} {ds : List PyData} {K : PySem.W.Frag}
theorem c_max2 {i j : Int} : RcD (fun xs H Q => ∃ i j, xs = [V.int i, V.int j] ∧ Q (V.int (if j > i then j else i)) H) [.int i, .int j] (.int (if j > i then j else i)) := fun G1 H1 e1 xs hx Q q => by
  have e := DDs.ints (ns := [i, j]) hx
  subst e
  exact ⟨i, j, rfl, q _ G1 H1 (Grow.refl e1) (.int _)⟩
theorem c_min2 {i j : Int} : RcD (fun xs H Q => ∃ i j, xs = [V.int i, V.int j] ∧ Q (V.int (if j < i then j else i)) H) [.int i, .int j] (.int (if j < i then j else i)) := fun G1 H1 e1 xs hx Q q => by
  have e := DDs.ints (ns := [i, j]) hx
  subst e
  exact ⟨i, j, rfl, q _ G1 H1 (Grow.refl e1) (.int _)⟩
theorem s_retM (h : EvM te σ G ds) (e : Ex G H) (k : ∀ p G2 H2, H p = none → Grow M0 G H G2 H2 → ML G2 H2 p ds → D.rt (.ref p) H2) : tRet te D σ H := h G H (Ex.refl G) e _ k
/-- te reads a list that may change, and gives the value v -/
theorem go_frz {v : V} {Q : VK} (m : ML G H l ds) (e : Ex G H) (h : ∀ G3, Ex G G3 → DD G3 (.ref l) (.list ds) → EvD te σ G3 d) (hv : ∀ G x, DD G x d → x = v) (k : ∀ H2, Grow M0 G H G H2 → Q v H2) : te σ H Q := by
  obtain ⟨G3, e1, e2, hd⟩ := m.frz e
  exact (h G3 e1 hd).go e2 fun v' G4 H4 g4 hv' => (hv _ _ hv') ▸ k H4 (g4.drop e1 e2)
theorem q_asgF {i : Nat} {v : V} (m : ML G H l ds) (e : Ex G H) (h : ∀ G3, Ex G G3 → DD G3 (.ref l) (.list ds) → EvD te σ G3 d) (hv : ∀ G x, DD G x d → x = v) (k : ∀ H2, Grow M0 G H G H2 → tz D (σ.set i (some v)) H2) : tSeq (tAsg te (gName i)) tz D σ H := go_frz (Q := fun v H2 => tz D (σ.set i (some v)) H2) m e h hv k
theorem DDs.set {G : Hp} : ∀ {vs : List V} {ds : List PyData} (j : Nat) {v : V} {d : PyData}, DDs G vs ds → DD G v d → DDs G (vs.set j v) (ds.set j d)
  | _, [], j, _, _, h, _ => by cases h; exact .nil
  | _, d :: ds, 0, _, _, h, k => by cases h with | cons h1 h2 => exact .cons k h2
  | _, d :: ds, j + 1, _, _, h, k => by cases h with | cons h1 h2 => exact .cons h1 (DDs.set j h2 k)
/-- l[k] = te, te reads l -/
theorem q_subF {i : Nat} {k : Int} {j : Nat} {v : V} (hi : σ[i]? = some (some (.ref l))) (m : ML G H l ds) (e : Ex G H) (h : ∀ G3, Ex G G3 → DD G3 (.ref l) (.list ds) → EvD te σ G3 d) (hv : ∀ G x, DD G x d → x = v) (hd : ∀ G, DD G v d) (hj : ixN ds.length k = some j)
    (kk : ∀ H2, Grow (Ms l) G H G H2 → Ex G H2 → ML G H2 l (ds.set j d) → tz D σ H2) : tSeq (tAsg te (gSub (tVar i) (tC (.int k)) L2.rSetL)) tz D σ H := by
  show te σ H fun v H1 => gSub (tVar i) (tC (.int k)) L2.rSetL v σ H1 fun σ2 H2 => tz D σ2 H2
  refine go_frz m e h hv fun H2 g2 => ?_
  have m2 := m.grow0 g2
  obtain ⟨g0, xs, hx, dx⟩ := id m2
  obtain ⟨g3, m3⟩ := m2.set (xs := xs.set j v) g2.gh (dx.set j (hd G))
  exact ⟨_, hi, l, xs, k, j, rfl, rfl, hx, by rw [dx.length]; exact hj, kk _ (g2.of0.trans g3) g3.gh m3⟩
end
end CL
namespace CP
open PySem L2 CL CM
section
variable {P : Program} {w : World} {K : PySem.W.Frag} {mg : Str → Option Value} {base : Heap} {Z : Ads}
/-- the script: a list of whole numbers that nobody changes -/
theorem sq_up {G H : Hp} {a : Addr} {xs : List V} (h : SqL K G a xs) (e : Ex G H) : SqL K H a xs := h.imp (fun r => up_rd r e) id
theorem d_lenQ {σ : VSt} {G : Hp} {a : Addr} {xs : List V} {i : Nat} (h : SqL K G a xs) (hi : σ[i]? = some (some (.ref a))) : EvD (tCB (CL.rLen K) (tCons (tVar i) tNil)) σ G (.int (xs.length : Int)) := .mk fun G1 H1 e1 e2 Q q =>
  ⟨_, hi, _, _, rfl, .inl ⟨xs, sq_up h (e1.trans e2), rfl⟩, q _ G1 H1 (Grow.refl e2) (.int _)⟩
def spCell (K : PySem.W.Frag) : Sp := fun vs H Q _ => ∃ (G : Hp) (a : Addr) (cs : List Int) (i : Nat), vs = [.ref a, .int (i : Int)] ∧ Ex G H ∧ SqL K G a (cs.map V.int) ∧ ∀ (c : Int) G2 H2, Grow M0 G H G2 H2 → Q (.int c) H2
theorem sc_law_cell : FnScope ["_law_script", "_law_index"] ["_law_script", "_law_index"] (defScope s_law_cell) := ⟨rfl, rfl, rfl, by decide +kernel, rfl, by decide +kernel, by decide +kernel⟩
theorem ok_law_cell {f : Addr} {fd : FuncData} (F : Fun K "_law_cell" "_law_cell" s_law_cell f fd) (T : Txt Z K mg) : FnOk P w K mg base CX0 1 f fd ["_law_script", "_law_index"] (spCell K) := by
  refine F.ok sc_law_cell (fun vs H Q E ⟨G, a, cs, i, e, _⟩ => by rw [e]; rfl) (fun cdv A outer s H vs Q E hr h => ?_)
  obtain ⟨G, a, cs, i, rfl, eG, ha, k⟩ := h
  have nd := sc_law_cell.nd
  refine ⟨_, (pss_cons (ps_if (pt_cmpR op_lt (pv 1) (pe_callB (crLenK K) (by rfl) T.b_len (by decide +kernel) (pa_cons (pv 0) pa_nil)) (nomark _)) (pss_one (ps_ret (pe_ix (ix_seqK K) (pv 0) (pv 1) (fun _ _ => rfl)))) pss_nil)
    (pss_one (ps_ret pe_int))), ?_⟩
  show tSeq _ _ _ [some (.ref a), some (.int (i : Int))] H
  refine q_when (b_test (d_op (d_var (σ := [some (.ref a), some (.int (i : Int))]) (i := 1) rfl (.int _)) (d_lenQ ha rfl) r_B0)) eG (fun hb G2 H2 g2 => ?_) fun hb G2 H2 g2 => ?_
  · have hi : i < cs.length := by
      have := of_decide_eq_true hb
      rw [List.length_map] at this
      omega
    exact ⟨_, rfl, _, rfl, .inl ⟨a, _, (i : Int), .int cs[i], rfl, rfl, sq_up ha (g2.g.trans g2.gh), atI_at (by rw [List.getElem?_map, List.getElem?_eq_getElem hi]; rfl), k _ G2 H2 g2⟩⟩
  · exact s_ret d_int g2.gh fun v G3 H3 g3 hv => by
      rw [hv.eqI]
      exact k _ G3 H3 (g2.trans g3)
def spSrc : Sp := fun vs H Q _ => ∃ (G : Hp) (c : Int), vs = [.int c] ∧ Ex G H ∧ ∀ p G2 H2, H p = none → Grow M0 G H G2 H2 → Src G2 H2 p → Q (.ref p) H2
theorem sc_law_source : FnScope ["_law_cell_here"] ["_law_cell_here"] (defScope s_law_source) := ⟨rfl, rfl, rfl, by decide +kernel, rfl, by decide +kernel, by decide +kernel⟩
theorem ok_law_source {f : Addr} {fd : FuncData} (F : Fun K "_law_source" "_law_source" s_law_source f fd) (T : Txt Z K mg) : FnOk P w K mg base CX0 1 f fd ["_law_cell_here"] spSrc := by
  refine F.ok sc_law_source (fun vs H Q E ⟨G, c, e, _⟩ => by rw [e]; rfl) (fun cdv A outer s H vs Q E hr h => ?_)
  obtain ⟨G, c, rfl, eG, k⟩ := h
  have nd := sc_law_source.nd
  refine ⟨_, (pss_one (ps_ret (pe_lst (pa_cons (pe_callB (call_max2 rfl) (by rfl) T.b_max (by decide +kernel) (pa_cons pe_int (pa_cons (pe_op op_sub (pv 0) (pe_op op_pow pe_int pe_int)) pa_nil))) (pa_cons (pe_op op_add (pe_op op_mod (pv 0) pe_int) pe_int) (pa_cons pe_int pa_nil)))))), ?_⟩
  show tRet _ _ [some (.int c)] H
  have hc : ∀ {G}, EvD (tVar 0) [some (V.int c)] G (.int c) := d_var rfl (.int c)
  have h1 : EvD (tOp (rI CPow fun i j => .int (i ^ j.toNat)) (tC (.int 10)) (tC (.int 18))) [some (V.int c)] G (.int (10 ^ 18)) := d_op d_int d_int (r_I (i := 10) (j := 18) (by show CPow 10 18; exact ⟨by decide, by decide, by decide⟩))
  have h2 : EvD (tOp (rI (fun _ j => 0 < j) fun i j => .int (i % j)) (tVar 0) (tC (.int 2147483629))) [some (V.int c)] G (.int (c % 2147483629)) := d_op hc d_int (r_I (j := 2147483629) (by show (0 : Int) < 2147483629; decide))
  refine s_retM (ds := [.int _, .int _, .int _]) (m_lst (a_cons (d_cb (a_cons d_int (a_cons (d_op hc h1 r_I0) a_nil)) c_max2) (a_cons (d_op h2 d_int r_I0) (a_cons d_int a_nil))) (by show 3 ≤ 100000; decide)) eG fun p G2 H2 hp g m => k p G2 H2 hp g (Src.ofML m)
def R_draw : List PyData → (PyData → Prop) → Prop := fun ds S => ∃ (n : Nat), ds = [I1 n] ∧ 0 < n ∧ n ≤ 200000 ∧ S = fun d => ∃ m, m < n ∧ d = I1 m
theorem modI1 {i : Int} {n : Nat} (h : 0 < n) : ∃ m, m < n ∧ (PyData.int (i % (n : Int))) = I1 m := by
  refine ⟨(i % (n : Int)).toNat, ?_, ?_⟩
  · have := Int.emod_nonneg i (b := (n : Int)) (by omega)
    have := Int.emod_lt_of_pos i (b := (n : Int)) (by omega)
    omega
  · have := Int.emod_nonneg i (b := (n : Int)) (by omega)
    show PyData.int _ = PyData.int _
    congr 1
    omega
theorem mul_mod_ok (i k j : Int) (hk : 0 < k) (h : k ≤ 2 ^ 32) : CMul (i % k) j := by
  have := Int.emod_nonneg i (b := k) (by omega)
  have := Int.emod_lt_of_pos i (b := k) hk
  exact .inl ⟨by omega, by omega⟩
theorem sc_law_draw : FnScope ["_law_source_here", "_law_many", "_law_found", "_law_mixed_here"] ["_law_source_here", "_law_many"] (defScope s_law_draw) := ⟨rfl, rfl, rfl, by decide +kernel, rfl, by decide +kernel, by decide +kernel⟩
theorem ok_law_draw {f : Addr} {fd : FuncData} (F : Fun K "_law_draw" "_law_draw" s_law_draw f fd) (T : Txt Z K mg) : FnOk P w K mg base CX0 1 f fd ["_law_source_here", "_law_many"] (spN R_draw) := by
  refine F.ok sc_law_draw (fun vs H Q E h => spN_len (n := 1) (fun ds S ⟨_, e, _⟩ => by rw [e]; rfl) h) (fun cdv A outer s H vs Q E hr h => ?_)
  obtain ⟨G, so, us, ds, S, rfl, ⟨n, rfl, hn, hn2, rfl⟩, eG, ms, hd, k⟩ := h
  obtain ⟨v1, r, rfl, h1, hd⟩ := hd.inv
  obtain rfl := hd.inv0
  obtain rfl := h1.eqI
  obtain ⟨a, b, c, ml⟩ := ms.ml
  have nd := sc_law_draw.nd
  have hdiv : CDivW a (n : Int) := ⟨by omega, by
    show n.log2 < 9000
    exact (Nat.log2_lt (by omega)).mpr (Nat.lt_of_le_of_lt hn2 (Nat.lt_of_lt_of_le (by decide : 200000 < 2 ^ 18) (Nat.pow_le_pow_right (by decide) (by decide))))⟩
  have ix : ∀ {o3 o4 : Option V} {ds : List PyData} {j : Int} {x : PyData} {G3 : Hp}, DD G3 (.ref so) (.list ds) → atI ds j = some x → EvD (tOp (rIx K) (tVar 0) (tC (.int j))) [some (V.ref so), some (.int (n : Int)), o3, o4] G3 x := fun hd hj => d_op (d_var rfl hd) d_int (r_ixL hj)
  refine ⟨_, (pss_cons (ps_if (pt_cmpR op_gt (pe_ix (ix_seqK K) (pv 0) pe_int (fun _ _ => rfl)) pe_int (nomark _)) (pss_cons (ps_set (i := 2) nd rfl (by first | exact Or.inl rfl | exact Or.inr rfl) (pe_op op_mod (pe_ix (ix_seqK K) (pv 0) pe_int (fun _ _ => rfl)) (pv 1)))
    (pss_cons (ps_asg (pe_op op_fdivW (pe_ix (ix_seqK K) (pv 0) pe_int (fun _ _ => rfl)) (pv 1)) (pg_sub (pv 0) pe_int set_list))
    (pss_one (ps_ret (pv 2))))) pss_nil)
    (pss_cons (ps_asg (pe_op op_add (pe_ix (ix_seqK K) (pv 0) pe_int (fun _ _ => rfl)) pe_int) (pg_sub (pv 0) pe_int set_list))
    (pss_cons (ps_asg (pe_op op_mod (pe_op op_add (pe_op op_add (pe_op op_mul (pe_ix (ix_seqK K) (pv 0) pe_int (fun _ _ => rfl)) pe_int) (pe_op op_mul pe_int (pe_ix (ix_seqK K) (pv 0) pe_int (fun _ _ => rfl)))) pe_int) pe_int) (pg_sub (pv 0) pe_int set_list))
    (pss_cons (ps_set (i := 3) nd rfl (by first | exact Or.inl rfl | exact Or.inr rfl) (pe_op op_mod (pe_op op_add (pe_op op_add (pe_op op_mul (pe_ix (ix_seqK K) (pv 0) pe_int (fun _ _ => rfl)) (pe_ix (ix_seqK K) (pv 0) pe_int (fun _ _ => rfl))) (pe_op op_mul pe_int (pe_ix (ix_seqK K) (pv 0) pe_int (fun _ _ => rfl)))) pe_int) pe_int))
    (pss_cons (ps_set (i := 3) nd rfl (by first | exact Or.inl rfl | exact Or.inr rfl) (pe_op op_mod (pe_op op_add (pe_op op_mul (pv 3) (pv 3)) (pe_op op_mul pe_int (pv 3))) pe_int))
    (pss_one (ps_ret (pe_op op_mod (pe_op op_fdivW (pv 3) pe_int) (pv 1))))))))), ?_⟩
  show tSeq _ _ _ [some (.ref so), some (.int (n : Int)), none, none] H
  obtain ⟨G3, e1, e2, hl⟩ := ml.frz eG
  refine q_whenF (b_test (d_op (ix hl (x := .int a) rfl) d_int r_B0)) e1 e2 (fun hb H2 g2 => ?_) fun hb H2 g2 => ?_
  · refine q_asgF (d := .int (a % (n : Int))) (v := .int (a % (n : Int))) (ml.grow0 g2) g2.gh (fun G3 e1 hl => d_op (ix hl (x := .int a) rfl) (d_var rfl (.int _)) (r_I (by show (0 : Int) < n; omega))) (fun _ _ q => q.eqI) fun H3 g3 => ?_
    have g23 := g2.trans g3
    show tSeq _ _ _ [some (.ref so), some (.int (n : Int)), some (.int (a % (n : Int))), none] H3
    refine q_subF (d := .int (a / (n : Int))) (v := .int (a / (n : Int))) (k := 0) (j := 0) rfl (ml.grow0 g23) g23.gh (fun G3 e1 hl => d_op (ix hl (x := .int a) rfl) (d_var rfl (.int _)) (r_I hdiv)) (fun _ _ q => q.eqI) (fun _ => .int _) rfl fun H4 g4 e4 m4 => ?_
    obtain ⟨m, hm, em⟩ := modI1 (i := a) hn
    show tRet _ _ [some (.ref so), some (.int (n : Int)), some (.int (a % (n : Int))), none] H4
    exact s_ret (em ▸ d_var rfl (.int _)) e4 fun v G5 H5 g5 hv => k v _ G5 H5 ⟨m, hm, rfl⟩ ((g23.of0.trans g4).then0 g5) ((Src.ofML m4).grow0 g5) hv
  · show tSeq _ _ _ [some (.ref so), some (.int (n : Int)), none, none] H2
    refine q_subF (d := .int (c + 1)) (v := .int (c + 1)) (k := 2) (j := 2) rfl (ml.grow0 g2) g2.gh (fun G3 e1 hl => d_op (ix hl (x := .int c) rfl) d_int r_I0) (fun _ _ q => q.eqI) (fun _ => .int _) rfl fun H3 g3 e3 m3 => ?_
    have m3 : ML G H3 so [.int a, .int b, .int (c + 1)] := m3
    have g23 := g2.of0.trans g3
    refine q_subF (d := .int ((b * 48271 + 1009 * (c + 1) + 7) % 2147483647)) (v := .int ((b * 48271 + 1009 * (c + 1) + 7) % 2147483647)) (k := 1) (j := 1) rfl m3 e3
      (fun G3 e1 hl => d_op (d_op (d_op (d_op (ix hl (x := .int b) rfl) d_int (r_I (.inr (by decide)))) (d_op d_int (ix hl (x := .int (c + 1)) rfl) (r_I (.inl (by decide)))) r_I0) d_int r_I0) d_int (r_I (by decide))) (fun _ _ q => q.eqI) (fun _ => .int _) rfl fun H4 g4 e4 m4 => ?_
    generalize hB : b * 48271 + 1009 * (c + 1) + 7 = B at *
    have m4 : ML G H4 so [.int a, .int (B % 2147483647), .int (c + 1)] := m4
    have g24 := g23.trans g4
    refine q_asgF (d := .int (((B % 2147483647) * (B % 2147483647) + 69621 * (B % 2147483647) + 11) % 2147483629)) (v := .int (((B % 2147483647) * (B % 2147483647) + 69621 * (B % 2147483647) + 11) % 2147483629)) m4 e4
      (fun G3 e1 hl => d_op (d_op (d_op (d_op (ix hl (x := .int (B % 2147483647)) rfl) (ix hl (x := .int (B % 2147483647)) rfl) (r_I (mul_mod_ok _ _ _ (by decide) (by decide)))) (d_op d_int (ix hl (x := .int (B % 2147483647)) rfl) (r_I (.inl (by decide)))) r_I0) d_int r_I0) d_int (r_I (by decide))) (fun _ _ q => q.eqI) fun H5 g5 => ?_
    generalize hC : (B % 2147483647) * (B % 2147483647) + 69621 * (B % 2147483647) + 11 = C at *
    have v3 : ∀ {i : Int} {G}, EvD (tVar 3) [some (V.ref so), some (.int (n : Int)), none, some (.int i)] G (.int i) := fun {i G} => d_var rfl (.int i)
    refine q_asg (d := .int (((C % 2147483629) * (C % 2147483629) + 40014 * (C % 2147483629)) % 2147483587)) (d_op (d_op (d_op v3 v3 (r_I (mul_mod_ok _ _ _ (by decide) (by decide)))) (d_op d_int v3 (r_I (.inl (by decide)))) r_I0) d_int (r_I (by decide))) g5.gh fun v6 G6 H6 g6 hv6 => ?_
    obtain rfl := hv6.eqI
    have hd16 : ∀ i : Int, CDivW i 16 := fun i => ⟨by decide, by decide⟩
    obtain ⟨m, hm, em⟩ := modI1 (i := (((C % 2147483629) * (C % 2147483629) + 40014 * (C % 2147483629)) % 2147483587) / 16) hn
    refine s_ret (d := I1 m) (em ▸ d_op (d_op v3 d_int (r_I (hd16 _))) (d_var rfl (.int _)) (r_I (by show (0 : Int) < n; omega))) g6.gh fun v G7 H7 g7 hv => k v _ G7 H7 ⟨m, hm, rfl⟩ (g24.then0 ((g5.trans g6).trans g7)) ((Src.ofML m4).grow0 ((g5.trans g6).trans g7)) hv
/-- what values may be drawn from -/
def R_choose : List PyData → (PyData → Prop) → Prop := fun ds S =>
  (∃ es : List PyData, ds = [.list es] ∧ es ≠ [] ∧ es.length ≤ 100000 ∧ S = fun d => d ∈ es) ∨ (∃ x : Str, ds = [.str x] ∧ 0 < x.length ∧ x.length ≤ 100000 ∧ S = fun d => ∃ c ∈ x.cps.toList, d = .str ⟨#[c]⟩)
theorem sc_law_choose : FnScope ["_law_source_here", "_law_values"] ["_law_source_here", "_law_values"] (defScope s_law_choose) := ⟨rfl, rfl, rfl, by decide +kernel, rfl, by decide +kernel, by decide +kernel⟩
theorem ok_law_choose {f : Addr} {fd : FuncData} (F : Fun K "_law_choose" "_law_choose" s_law_choose f fd) (T : Txt Z K mg) (F_law_draw : Fn1 P w K mg base "_law_draw" 1 (spN R_draw)) : FnOk P w K mg base CX0 2 f fd ["_law_source_here", "_law_values"] (spN R_choose) := by
  refine F.ok sc_law_choose (fun vs H Q E h => spN_len (n := 1) (fun ds S h => by rcases h with ⟨_, e, _⟩ | ⟨_, e, _⟩ <;> (rw [e]; rfl)) h) (fun cdv A outer s H vs Q E hr h => ?_)
  obtain ⟨G, so, us, ds, S, rfl, hR, eG, ms, hd, k⟩ := h
  have nd := sc_law_choose.nd
  rcases hR with ⟨es, rfl, hne, hlen, rfl⟩ | ⟨x, rfl, hx0, hxl, rfl⟩
  · obtain ⟨v1, r, rfl, h1, hd⟩ := hd.inv
    obtain rfl := hd.inv0
    refine ⟨_, (pss_one (ps_ret (pe_ix (ix_seqK K) (pv 1) (pe_fn F_law_draw (hr.mono (by decide)) rfl (pa_cons (pv 0) (pa_cons (pe_callB (crLenK K) (by rfl) T.b_len (by decide +kernel) (pa_cons (pv 1) pa_nil)) pa_nil))) (fun _ _ => rfl)))), ?_⟩
    show tRet _ _ [some (.ref so), some v1] H
    refine s_retN (n_op (n_d (d_var rfl h1)) (n_call (v_var rfl) (a_cons (d_cb (a_cons (d_var rfl h1) a_nil) c_lenL) a_nil) ⟨es.length, rfl, List.length_pos_iff.mpr hne, by omega, rfl⟩) fun d e hd he => ?_) eG ms k
    subst hd
    obtain ⟨m, hm, rfl⟩ := he
    exact ⟨es[m], List.getElem_mem hm, r_ixL (atI_at (List.getElem?_eq_getElem hm))⟩
  · obtain ⟨v1, r, rfl, h1, hd⟩ := hd.inv
    obtain rfl := hd.inv0
    refine ⟨_, (pss_one (ps_ret (pe_ix (ix_seqK K) (pv 1) (pe_fn F_law_draw (hr.mono (by decide)) rfl (pa_cons (pv 0) (pa_cons (pe_callB (crLenK K) (by rfl) T.b_len (by decide +kernel) (pa_cons (pv 1) pa_nil)) pa_nil))) (fun _ _ => rfl)))), ?_⟩
    show tRet _ _ [some (.ref so), some v1] H
    refine s_retN (n_op (n_d (d_var rfl h1)) (n_call (v_var rfl) (a_cons (d_cb (a_cons (d_var rfl h1) a_nil) (c_lenS hxl)) a_nil) ⟨x.length, rfl, hx0, by omega, rfl⟩) fun d e hd he => ?_) eG ms k
    subst hd
    obtain ⟨m, hm, rfl⟩ := he
    have hm' : m < x.cps.toList.length := hm
    exact ⟨_, ⟨_, List.getElem_mem hm', rfl⟩, r_ixS hxl (atI_at (List.getElem?_eq_getElem hm'))⟩
def R_equal : List PyData → (PyData → Prop) → Prop := fun ds S => ∃ b : Bool, ds = [.bool b, .bool b] ∧ S = fun d => d = .bool true
theorem c_reprB {b : Bool} : RcD rReprB [.bool b] (.str (if b then ("True" : Str) else ("False" : Str))) := fun G1 H1 e1 xs hx Q q => by
  have e := DDs.bls (ns := [b]) hx
  subst e
  exact ⟨b, rfl, q _ G1 H1 (Grow.refl e1) (.str _)⟩
theorem sc_law_is_equal : FnScope ["_law_actual", "_law_expected"] ["_law_actual", "_law_expected"] (defScope s_law_is_equal) := ⟨rfl, rfl, rfl, by decide +kernel, rfl, by decide +kernel, by decide +kernel⟩
theorem ok_law_is_equal {f : Addr} {fd : FuncData} (F : Fun K "_law_is_equal" "_law_is_equal" s_law_is_equal f fd) (T : Txt Z K mg) : FnOk P w K mg base CX0 1 f fd ["_law_actual", "_law_expected"] (spR R_equal) := by
  refine F.ok sc_law_is_equal (fun vs H Q E h => spR_len (n := 2) (fun ds S ⟨_, e, _⟩ => by rw [e]; rfl) h) (fun cdv A outer s H vs Q E hr h => ?_)
  obtain ⟨G, ds, S, ⟨b, rfl, rfl⟩, eG, hd, k⟩ := h
  obtain ⟨v1, r, rfl, h1, hd⟩ := hd.inv
  obtain ⟨v2, r, rfl, h2, hd⟩ := hd.inv
  obtain rfl := hd.inv0
  have nd := sc_law_is_equal.nd
  refine ⟨_, (pss_one (ps_ret (pe_cmpR (eqDK K (h64 hr)) (pe_callB call_repr_bool (by rfl) T.b_repr (by decide +kernel) (pa_cons (pv 0) pa_nil)) (pe_callB call_repr_bool (by rfl) T.b_repr (by decide +kernel) (pa_cons (pv 1) pa_nil)) (nomark _)))), ?_⟩
  show tRet _ _ [some v1, some v2] H
  have hs : SeqAt.shaped (.str (if b then ("True" : Str) else ("False" : Str))) = true := by cases b <;> decide +kernel
  refine s_ret (d_op (d_cb (a_cons (d_var rfl h1) a_nil) c_reprB) (d_cb (a_cons (d_var rfl h2) a_nil) c_reprB) (r_eq hs hs)) eG fun v G2 H2 g hv => ?_
  rw [eqv_str, decide_eq_true rfl] at hv
  exact k v _ G2 H2 rfl g hv
end
end CP
set_option Elab.async false
set_option linter.all false
set_option maxRecDepth 100000
set_option maxHeartbeats 4000000
namespace CM
theorem left_ne {n : Nat} {fs : List Nat} (hl : fs.length < n) : ((List.range n).filter fun x => decide (x ∉ fs)) ≠ [] := fun e => by
  have h : ∀ x ∈ List.range n, x ∈ fs := fun x hx => by
    refine Classical.byContradiction fun z => ?_
    have : x ∈ ((List.range n).filter fun x => decide (x ∉ fs)) := List.mem_filter.mpr ⟨hx, decide_eq_true z⟩
    rw [e] at this
    cases this
  have := List.Nodup.length_le_of_subset (l₁ := List.range n) (l₂ := fs) List.nodup_range h
  rw [List.length_range] at this
  omega
theorem left_step {n : Nat} {fs : List Nat} {x : Nat} : ((List.range n).filter fun y => decide (y ∉ fs)).filter (fun y => !decide (y = x)) = (List.range n).filter fun y => decide (y ∉ fs ++ [x]) := by
  rw [List.filter_filter]
  congr 1
  funext y
  by_cases h1 : y ∈ fs <;> by_cases h2 : y = x <;> simp [h1, h2]
end CM
namespace CP
open PySem L2 CL CM
section
variable {P : Program} {w : World} {K : PySem.W.Frag} {mg : Str → Option Value} {base : Heap} {Z : Ads}
def R_mixed : List PyData → (PyData → Prop) → Prop := fun ds S => ∃ (n : Nat), ds = [I1 n] ∧ n ≤ 100 ∧ S = fun d => ∃ ns : List Nat, ns.Nodup ∧ ns.length = n ∧ (∀ x ∈ ns, x < n) ∧ d = .list (ns.map I1)
theorem lay_I1l (ns : List Nat) : Lay 1 (.list (ns.map I1)) := lay_map (fun x => lay_int _) ns
theorem sc_law_mixed : FnScope ["_law_source_here", "_law_many", "_law_found", "_law_left", "_law_turn", "_law_one", "_law_at"] ["_law_source_here", "_law_many"] (defScope s_law_mixed) := ⟨rfl, rfl, rfl, by decide +kernel, rfl, by decide +kernel, by decide +kernel⟩
theorem ok_law_mixed {f : Addr} {fd : FuncData} (F : Fun K "_law_mixed" "_law_mixed" s_law_mixed f fd) (T : Txt Z K mg) (F_law_choose : Fn1 P w K mg base "_law_choose" 2 (spN R_choose)) : FnOk P w K mg base CX0 3 f fd ["_law_source_here", "_law_many"] (spN R_mixed) := by
  refine F.ok sc_law_mixed (fun vs H Q E h => spN_len (n := 1) (fun ds S ⟨_, e, _⟩ => by rw [e]; rfl) h) (fun cdv A outer s H vs Q E hr h => ?_)
  obtain ⟨G, so, us, ds, S, rfl, ⟨n, rfl, hn, rfl⟩, eG, ms, hd, k⟩ := h
  obtain ⟨v1, r, rfl, h1, hd⟩ := hd.inv
  obtain rfl := hd.inv0
  obtain rfl := h1.eqI
  have nd := sc_law_mixed.nd
  refine ⟨_, (pss_cons (ps_par (i := 2) (j := 3) rfl nd rfl rfl (by decide) rfl rfl (pa_cons (pe_lst pa_nil) (pa_cons (pe_lc (own := [("_law_at", 6)]) (by rfl) nd (pi_range1 (by rfl) T.b_range (pa_cons (pv 1) pa_nil)) (blkOk_by (own := [("_law_at", 6)]) (N := ["_law_source_here", "_law_many", "_law_found", "_law_left", "_law_turn", "_law_one", "_law_at"]) (sc := (defScope s_law_mixed)) (by decide +kernel)) (fun _ _ _ _ _ => (pgN 6 nd)) (fun _ _ _ _ _ => pts_nil) (fun _ _ _ _ _ => (pv 6))) pa_nil)) (by rfl))
    (pss_cons (ps_for PassesOwn.never rfl (pi_range1 (by rfl) T.b_range (pa_cons (pv 1) pa_nil)) (pgN 4 nd)
    (pss_cons (ps_set (i := 5) nd rfl (by first | exact Or.inl rfl | exact Or.inr rfl) (pe_fn F_law_choose (hr.mono (by decide)) rfl (pa_cons (pv 0) (pa_cons (pv 3) pa_nil))))
    (pss_cons (ps_expr (pe_bm PySem.F.plainAttrs_list PySem.F.slot_list_append PySem.F.type_list_append mt_append (pv 2) (pa_cons (pv 5) pa_nil)))
    (pss_one (ps_setLc (i := 3) (own := [("_law_at", 6)]) rfl nd rfl rfl (sw_true rfl rfl rfl (by decide +kernel)) (piListK K (pv 3)) (blkOk_by (own := [("_law_at", 6)]) (N := ["_law_source_here", "_law_many", "_law_found", "_law_left", "_law_turn", "_law_one", "_law_at"]) (sc := (defScope s_law_mixed)) (by decide +kernel)) (fun _ _ _ _ _ => (pgN 6 nd)) (fun _ _ _ _ _ => pts_one (pt_cmpR (neDK K (h64 hr)) (pv 6) (pv 5) (nomark _))) (fun _ _ _ _ _ => (pv 6)))))))
    (pss_one (ps_ret (pv 2))))), ?_⟩
  show tSeq _ _ _ [some (.ref so), some (.int (n : Int)), none, none, none, none, none] H
  have hrange : EvM (tLc (iRng1 (tCons (tVar 1) tNil)) (gName 6) tYes (tVar 6) [6]) [some (V.ref so), some (.int (n : Int)), none, none, none, none, none] G ((List.range n).map I1) := by
    have z := m_lcR (vs := [6]) (g := gName 6) (tt := tYes) (te := tVar 6) (σ := [some (V.ref so), some (.int (n : Int)), none, none, none, none, none]) (G := G) (fun _ => true) I1 (a_cons (d_var (i := 1) rfl (.int (n : Int))) a_nil) (by omega)
      (fun x G1 H1 hx e1 e2 Q q => q _ rfl (fun G1 H1 _ e2 Q q => q G1 H1 (Grow.refl e2)) fun _ => d_var rfl (.int _))
    rw [List.filter_eq_self.mpr fun _ _ => rfl] at z
    exact z
  refine q_parMM (ds := []) (m_lst a_nil) hrange eG fun pf pl G1 H1 hpf hpl hne g1 mf ml => ?_
  show tSeq _ _ _ [some (.ref so), some (.int (n : Int)), some (.ref pf), some (.ref pl), none, none, none] H1
  obtain ⟨G2, g2, e12, hl2, oth⟩ := ml.fin g1 hpl
  have mf2 := oth pf _ hne mf
  have hfs : pf ≠ so := ms.ne hpf
  refine q_forR (a_cons (d_var rfl (.int _)) a_nil) g2.gh (by omega) (fun i σ' G' H' => ∃ (fs : List Nat) (vl : V) (o4 o5 o6 : Option V), σ' = [some (.ref so), some (.int (n : Int)), some (.ref pf), some vl, o4, o5, o6] ∧ Grow (Ms so) G H G' H' ∧ Src G' H' so ∧ ML G' H' pf (fs.map I1) ∧
      DD G' vl (.list (((List.range n).filter fun x => decide (x ∉ fs)).map I1)) ∧ fs.Nodup ∧ (∀ x ∈ fs, x < n) ∧ fs.length = i)
    (fun G3 H3 g3 => ⟨[], .ref pl, none, none, none, rfl, (g2.trans g3).of0, (ms.grow0 (g2.trans g3)), mf2.grow0 g3, ?_, .nil, (fun x hx => nomatch hx), rfl⟩) ?_ ?_
  · have e : ((List.range n).filter fun x => decide (x ∉ ([] : List Nat))) = List.range n := List.filter_eq_self.mpr fun x _ => by simp
    rw [e]
    exact hl2.up g3.g
  · rintro i σ' G3 H3 hi eG3 eH3 ⟨fs, vl, o4, o5, o6, rfl, g3, ms3, mf3, hvl, hnd, hlt, hlen⟩ Nx hNx
    show tSeq _ _ _ [some (.ref so), some (.int (n : Int)), some (.ref pf), some vl, some (.int (i : Int)), o5, o6] H3
    have hle : ((List.range n).filter fun x => decide (x ∉ fs)).length ≤ n := by
      have := List.length_filter_le (fun x => decide (x ∉ fs)) (List.range n)
      rw [List.length_range] at this
      exact this
    refine q_asgN (s := so) (n_call (v_var rfl) (a_cons (d_var rfl hvl) a_nil) (.inl ⟨_, rfl, fun z => left_ne (n := n) (fs := fs) (by omega) (List.map_eq_nil_iff.mp z), by rw [List.length_map]; omega, rfl⟩)) eH3 ms3 fun v4 d4 G4 H4 hd4 g4 ms4 hv4 => ?_
    obtain ⟨x, hx, rfl⟩ := List.mem_map.mp hd4
    obtain rfl := hv4.eqI
    show tSeq _ _ _ [some (.ref so), some (.int (n : Int)), some (.ref pf), some vl, some (.int (i : Int)), some (.int (x : Int)), o6] H4
    have hx' := List.mem_filter.mp hx
    have hxn : x < n := List.mem_range.mp hx'.1
    have hxf : x ∉ fs := of_decide_eq_true hx'.2
    refine q_app (v_var rfl) (mf3.grow g4 fun z => hfs z) (d := I1 x) (d_var rfl (.int _)) g4.gh (by rw [List.length_map]; omega) fun G5 H5 g5 mf5 => ?_
    have g35 : Grow (Ms so) G H G5 H5 := (g3.trans g4).priv g5 hpf
    have ms5 : Src G5 H5 so := ms4.grow g5 fun z => hfs z.symm
    have hvl5 := hvl.up (g4.g.trans g5.g)
    have z := m_lcL (K := K) (vs := [6]) (g := gName 6) (te := tVar 6) (tt := tTest (tOp (rNeD K) (tVar 6) (tVar 5))) (σ := [some (.ref so), some (.int (n : Int)), some (.ref pf), some vl, some (.int (i : Int)), some (.int (x : Int)), o6]) (G := G5) (enc := I1) (fun y => !decide (y = x)) I1 (d_var (i := 3) rfl hvl5) (by omega)
      (fun y v G1 H1 hy e1 e2 hv Q q => q _ rfl (by
        have z := b_test (d_op (d_var (σ := [some (.ref so), some (.int (n : Int)), some (.ref pf), some vl, some (.int (i : Int)), some (.int (x : Int)), some v]) (i := 6) rfl hv) (d_var (i := 5) rfl (.int _)) (r_ne (K := K) (lay_int _).shaped (lay_int _).shaped))
        rw [eqv_I1] at z
        exact z) fun _ => d_var rfl hv)
    rw [left_step] at z
    refine s_asg z.toD g5.gh fun v6 G6 H6 g6 hv6 => ?_
    refine hNx _ G6 H6 ((g4.g.trans g5.g).trans g6.g) g6.gh ⟨fs ++ [x], v6, _, _, _, rfl, g35.then0 g6, ms5.grow0 g6, ?_, hv6, ?_, ?_, ?_⟩
    · rw [List.map_append]; exact mf5.grow0 g6
    · exact List.nodup_append.mpr ⟨hnd, by simp, fun a ha b hb z => by rw [List.mem_singleton] at hb; exact hxf (hb ▸ z ▸ ha)⟩
    · intro y hy
      rcases List.mem_append.mp hy with q | q
      · exact hlt y q
      · rw [List.mem_singleton] at q; omega
    · rw [List.length_append, hlen]; rfl
  · rintro σ' G3 H3 eG3 eH3 ⟨fs, vl, o4, o5, o6, rfl, g3, ms3, mf3, hvl, hnd, hlt, hlen⟩
    obtain ⟨G4, g4, e4, hd4, oth4⟩ := mf3.fin g3 hpf
    obtain ⟨a, b, c, m3⟩ := ms3.ml
    have ms4 : Src G4 H3 so := Src.ofML (oth4 so _ (fun z => hfs z.symm) m3)
    exact s_ret (d_var rfl hd4) g4.gh fun v G5 H5 g5 hv => k v _ G5 H5 ⟨fs, hnd, hlen, hlt, rfl⟩ (g4.then0 g5) (ms4.grow0 g5) hv
/-- the kinds that a step may take -/
def KD (x : Str) : Prop := x = "s" ∨ x = "w" ∨ x = "sw"
theorem KD.len {x : Str} (h : KD x) : 0 < x.length ∧ x.length ≤ 100000 := by
  rcases h with rfl | rfl | rfl <;> decide +kernel
theorem KD.chr {x : Str} (h : KD x) {c : Nat} (hc : c ∈ x.cps.toList) : c = 115 ∨ c = 119 := by
  revert c
  rcases h with rfl | rfl | rfl <;> decide +kernel
theorem shaped_chr {c : Nat} (h : c = 115 ∨ c = 119) : SeqAt.shaped (.str ⟨#[c]⟩) = true := by
  rcases h with rfl | rfl <;> decide +kernel
def R_step : List PyData → (PyData → Prop) → Prop := fun ds S => ∃ (n a b : Nat) (x : Str), ds = [I1 a, I1 b, .str x] ∧ a < n ∧ b < n ∧ a ≠ b ∧ KD x ∧ S = fun d => ∃ r : Ru, validR n r ∧ d = RU r
theorem sc_law_step : FnScope ["_law_source_here", "_law_a", "_law_b", "_law_kinds"] ["_law_source_here", "_law_a", "_law_b", "_law_kinds"] (defScope s_law_step) := ⟨rfl, rfl, rfl, by decide +kernel, rfl, by decide +kernel, by decide +kernel⟩
theorem ok_law_step {f : Addr} {fd : FuncData} (F : Fun K "_law_step" "_law_step" s_law_step f fd) (T : Txt Z K mg) (F_law_choose : Fn1 P w K mg base "_law_choose" 2 (spN R_choose)) : FnOk P w K mg base CX0 3 f fd ["_law_source_here", "_law_a", "_law_b", "_law_kinds"] (spN R_step) := by
  refine F.ok sc_law_step (fun vs H Q E h => spN_len (n := 3) (fun ds S ⟨_, _, _, _, e, _⟩ => by rw [e]; rfl) h) (fun cdv A outer s H vs Q E hr h => ?_)
  obtain ⟨G, so, us, ds, S, rfl, ⟨n, a, b, x, rfl, ha, hb, hab, hx, rfl⟩, eG, ms, hd, k⟩ := h
  obtain ⟨v1, r, rfl, h1, hd⟩ := hd.inv
  obtain ⟨v2, r, rfl, h2, hd⟩ := hd.inv
  obtain ⟨v3, r, rfl, h3, hd⟩ := hd.inv
  obtain rfl := hd.inv0
  have nd := sc_law_step.nd
  refine ⟨_, (pss_one (ps_ret (pe_ifExp (pt_cmpR (eqDK K (h64 hr)) (pe_fn F_law_choose (hr.mono (by decide)) rfl (pa_cons (pv 0) (pa_cons (pv 3) pa_nil))) pe_str (nomark _)) (pe_tup (pa_cons pe_str (pa_cons (pv 1) (pa_cons (pv 2) pa_nil)))) (pe_tup (pa_cons pe_str (pa_cons (pv 2) (pa_cons (pv 1) pa_nil))))))), ?_⟩
  show tRet _ _ [some (.ref so), some v1, some v2, some v3] H
  refine s_retN (n_if (nb_test (n_op (n_call (v_var rfl) (a_cons (d_var rfl h3) a_nil) (.inr ⟨x, rfl, hx.len.1, hx.len.2, rfl⟩)) (n_d d_str) fun d e hd he => ?_))
    (n_weak (n_d (d_tup (a_cons d_str (a_cons (d_var rfl h1) (a_cons (d_var rfl h2) a_nil))))) fun d hd => ⟨(true, a, b), ⟨ha, hb, hab⟩, hd⟩)
    (n_weak (n_d (d_tup (a_cons d_str (a_cons (d_var rfl h2) (a_cons (d_var rfl h1) a_nil))))) fun d hd => ⟨(false, b, a), ⟨hb, ha, fun z => hab z.symm⟩, hd⟩)) eG ms k
  obtain ⟨c, hc, rfl⟩ := hd
  subst he
  exact ⟨_, ⟨_, rfl⟩, r_eq (shaped_chr (hx.chr hc)) (by decide +kernel)⟩
end
end CP
set_option Elab.async false
set_option linter.all false
set_option maxRecDepth 100000
set_option maxHeartbeats 4000000
namespace CP
open PySem L2 CL CM
theorem RvD.is {r : R2} {d e z z' : PyData} (h : RvD r d e z) (k : z = z') : RvD r d e z' := k ▸ h
section
variable {P : Program} {w : World} {K : PySem.W.Frag} {mg : Str → Option Value} {base : Heap} {Z : Ads}
def R_rules : List PyData → (PyData → Prop) → Prop := fun ds S => ∃ (n : Nat), ds = [I1 n] ∧ 1 ≤ n ∧ n ≤ 6 ∧ S = fun d => ∃ rs : List Ru, GoodL n rs ∧ d = .list (rs.map RU)
theorem all_flat : ∀ is : List Int, (is.map V.int).all flatV = true
  | [] => rfl
  | i :: is => all_flat is
/-- x in a written tuple of whole numbers -/
theorem b_inI {σ : VSt} {G : Hp} {ta tb : TE} {m : Int} {is : List Int} (h1 : EvD ta σ G (.int m)) (h2 : EvD tb σ G (.tuple (is.map PyData.int))) : EvB (tTest (tOp (rIn K false) ta tb)) σ G (inV (.int m) (is.map V.int)) :=
  b_test (d_op h1 h2 (r_inT (fun _ _ q => q.eqI) (fun _ _ q => q.ints) rfl (all_flat is) rfl))
theorem all_enc {V : Ru → Prop} : ∀ {ds : List PyData}, (∀ d ∈ ds, ∃ r : Ru, V r ∧ d = RU r) → ∃ rs : List Ru, ds = rs.map RU ∧ ∀ r ∈ rs, V r
  | [], _ => ⟨[], rfl, fun r hr => nomatch hr⟩
  | d :: ds, h => by
    obtain ⟨r, hr, rfl⟩ := h d List.mem_cons_self
    obtain ⟨rs, rfl, hrs⟩ := all_enc (ds := ds) fun x hx => h x (List.mem_cons_of_mem _ hx)
    exact ⟨r :: rs, rfl, fun x hx => (List.mem_cons.mp hx).elim (fun e => e ▸ hr) (hrs x)⟩
structure Cst where
  so : Addr
  n : Nat
  m : Nat
  x : Str
  ns : List Nat
  sz : Nat
  G : Hp
  H : Hp
/-- the course of _law_rules: at most L rules so far -/
def St (c : Cst) (L : Nat) (σ' : VSt) (G' H' : Hp) : Prop := ∃ (p : Addr) (vo : V) (rs : List Ru) (o7 o8 o9 o10 : Option V), σ' = [some (.ref c.so), some (.int (c.n : Int)), some (.int (c.m : Int)), some (.str c.x), some (.ref p), some vo, some (.int (c.sz : Int)), o7, o8, o9, o10, none, none] ∧
  Grow (Ms c.so) c.G c.H G' H' ∧ Src G' H' c.so ∧ ML G' H' p (rs.map RU) ∧ c.H p = none ∧ DD G' vo (.list (c.ns.map I1)) ∧ (∀ r ∈ rs, validR c.n r) ∧ rs.length ≤ L ∧ p ≠ c.so
theorem St.grow0 {c : Cst} {L : Nat} {σ' : VSt} {G' H' G2 H2 : Hp} (h : St c L σ' G' H') (g : Grow M0 G' H' G2 H2) : St c L σ' G2 H2 := by
  obtain ⟨p, vo, rs, o7, o8, o9, o10, rfl, g0, ms, ml, hp, hvo, hv, hl, hne⟩ := h
  exact ⟨p, vo, rs, o7, o8, o9, o10, rfl, g0.then0 g, ms.grow0 g, ml.grow0 g, hp, hvo.up g.g, hv, hl, hne⟩
theorem St.le {c : Cst} {L L' : Nat} {σ' : VSt} {G' H' : Hp} (h : St c L σ' G' H') (k : L ≤ L') : St c L' σ' G' H' := by
  obtain ⟨p, vo, rs, o7, o8, o9, o10, rfl, g0, ms, ml, hp, hvo, hv, hl, hne⟩ := h
  exact ⟨p, vo, rs, o7, o8, o9, o10, rfl, g0, ms, ml, hp, hvo, hv, Nat.le_trans hl k, hne⟩
theorem St.gh {c : Cst} {L : Nat} {σ' : VSt} {G' H' : Hp} (h : St c L σ' G' H') : Ex G' H' := by
  obtain ⟨p, vo, rs, o7, o8, o9, o10, rfl, g0, _⟩ := h
  exact g0.gh
theorem st_app {c : Cst} {L : Nat} {σ' : VSt} {G' H' : Hp} {tr : TA} {D : Ends} (h : St c L σ' G' H') (args : ∃ a b y, EvA tr σ' G' [I1 a, I1 b, .str y] ∧ a < c.n ∧ b < c.n ∧ a ≠ b ∧ KD y) (hL : L < 1000)
    (k : ∀ G2 H2, Ex G' G2 → St c (L + 1) σ' G2 H2 → D.nx σ' H2) : tDrop (tBM K "list" rAppend (tVar 4) (tCons (tCall (spN R_step) [] E0 (tCons (tVar 0) tr)) tNil)) D σ' H' := by
  obtain ⟨p, vo, rs, o7, o8, o9, o10, rfl, g0, ms, ml, hp, hvo, hv, hl, hne⟩ := h
  obtain ⟨a, b, y, ha, h1, h2, h3, h4⟩ := args
  refine s_appN (s := c.so) (v_var rfl) ml hne (n_call (v_var rfl) ha ⟨c.n, a, b, y, rfl, h1, h2, h3, h4, rfl⟩) g0.gh ms (by rw [List.length_map]; omega) fun d G2 H2 hd g ms2 ml2 => ?_
  obtain ⟨r, hr, rfl⟩ := hd
  refine k G2 H2 g.g ⟨p, vo, rs ++ [r], o7, o8, o9, o10, rfl, g0.priv2 (M := M0) g hp, ms2, by rw [List.map_append]; exact ml2, hp, hvo.up g.g, fun q hq => ?_, by rw [List.length_append]; simp; omega, hne⟩
  rcases List.mem_append.mp hq with z | z
  · exact hv q z
  · rw [List.mem_singleton] at z; rw [z]; exact hr
theorem q_st_app {c : Cst} {L : Nat} {σ' : VSt} {G' H' : Hp} {tr : TA} {D : Ends} {tz : TS} (h : St c L σ' G' H') (args : ∃ a b y, EvA tr σ' G' [I1 a, I1 b, .str y] ∧ a < c.n ∧ b < c.n ∧ a ≠ b ∧ KD y) (hL : L < 1000)
    (k : ∀ G2 H2, Ex G' G2 → St c (L + 1) σ' G2 H2 → tz D σ' H2) : tSeq (tDrop (tBM K "list" rAppend (tVar 4) (tCons (tCall (spN R_step) [] E0 (tCons (tVar 0) tr)) tNil))) tz D σ' H' := st_app (D := { D with nx := tz D }) h args hL k
theorem q_whenSt {c : Cst} {L L' : Nat} {σ' : VSt} {G' H' : Hp} {b : Bool} {t : TT} {tu tz : TS} {D : Ends} (h : EvB t σ' G' b) (st : St c L σ' G' H') (hL : L ≤ L') (k : ∀ σ1 G1 H1, St c L' σ1 G1 H1 → tz D σ1 H1)
    (h1 : b = true → ∀ G2 H2, St c L σ' G2 H2 → (∀ σ1 G1 H1, St c L' σ1 G1 H1 → tz D σ1 H1) → tu { D with nx := tz D } σ' H2) : tSeq (tIfS t tu tNext) tz D σ' H' :=
  q_when h st.gh (fun hb G2 H2 g => h1 hb G2 H2 (st.grow0 g) k) fun _ G2 H2 g => k _ _ _ ((st.grow0 g).le hL)
/-- the columns in their order -/
structure Ord (c : Cst) : Prop where
  nd : c.ns.Nodup
  len : c.ns.length = c.n
  lt : ∀ x ∈ c.ns, x < c.n
  m8 : c.m < 8
  kd : KD c.x
  s1 : 1 ≤ c.sz
  sn : c.sz ≤ c.n
  n6 : c.n ≤ 6
theorem Ord.at {c : Cst} (o : Ord c) {L : Nat} {σ' : VSt} {G' H' : Hp} {ti : TE} {i : Nat} {y : Int} (h : St c L σ' G' H') (hi : i < c.n) (hti : EvD ti σ' G' (.int y)) (hy : y = (i : Int)) : EvD (tOp (rIx K) (tVar 5) ti) σ' G' (I1 (c.ns[i]'(by rw [o.len]; exact hi))) := by
  obtain ⟨p, vo, rs, o7, o8, o9, o10, rfl, g0, ms, ml, hp, hvo, hv, hl, hne⟩ := h
  subst hy
  exact d_op (d_var rfl hvo) hti (r_ixL (atI_at (by rw [List.getElem?_map, List.getElem?_eq_getElem (by rw [o.len]; exact hi)]; rfl)))
theorem Ord.ne {c : Cst} (o : Ord c) {i j : Nat} (hi : i < c.n) (hj : j < c.n) (h : i ≠ j) : (c.ns[i]'(by rw [o.len]; exact hi)) ≠ (c.ns[j]'(by rw [o.len]; exact hj)) := fun e => by
  have p := List.pairwise_iff_getElem.mp o.nd
  rcases Nat.lt_or_gt_of_ne h with q | q
  · exact p i j _ _ q e
  · exact p j i _ _ q e.symm
theorem Ord.ok {c : Cst} (o : Ord c) {i : Nat} (hi : i < c.n) : (c.ns[i]'(by rw [o.len]; exact hi)) < c.n := o.lt _ (List.getElem_mem _)
theorem Ord.args {c : Cst} (o : Ord c) {L : Nat} {σ' : VSt} {G' H' : Hp} {ti tj tk : TE} {i j : Nat} {yi yj : Int} {y : Str} (h : St c L σ' G' H') (hi : i < c.n) (hj : j < c.n) (hne : i ≠ j) (hti : EvD ti σ' G' (.int yi)) (hyi : yi = (i : Int)) (htj : EvD tj σ' G' (.int yj)) (hyj : yj = (j : Int))
    (htk : EvD tk σ' G' (.str y)) (hy : KD y) : ∃ a b y, EvA (tCons (tOp (rIx K) (tVar 5) ti) (tCons (tOp (rIx K) (tVar 5) tj) (tCons tk tNil))) σ' G' [I1 a, I1 b, .str y] ∧ a < c.n ∧ b < c.n ∧ a ≠ b ∧ KD y :=
  ⟨_, _, y, a_cons (o.at h hi hti hyi) (a_cons (o.at h hj htj hyj) (a_cons htk a_nil)), o.ok hi, o.ok hj, o.ne hi hj hne, hy⟩
theorem KD.sw : KD "sw" := .inr (.inr rfl)
theorem KD.s : KD "s" := .inl rfl
theorem KD.ww : KD "w" := .inr (.inl rfl)
def tbl : List Nat := [3, 1, 0, 2, 2, 1, 12, 6]
theorem tbl_le (m : Nat) (h : m < 8) : ∃ t, tbl[m]? = some t ∧ t ≤ 12 := by
  revert m
  decide
theorem sc_law_rules : FnScope ["_law_source_here", "_law_width", "_law_way", "_law_kinds", "_law_some", "_law_order", "_law_size", "_law_turn", "_law_a", "_law_b", "_law_by", "_law_at", "_law_one"] ["_law_source_here", "_law_width"] (defScope s_law_rules) := ⟨rfl, rfl, rfl, by decide +kernel, rfl, by decide +kernel, by decide +kernel⟩
theorem ok_law_rules {f : Addr} {fd : FuncData} (F : Fun K "_law_rules" "_law_rules" s_law_rules f fd) (T : Txt Z K mg) (F_law_draw : Fn1 P w K mg base "_law_draw" 1 (spN R_draw)) (F_law_choose : Fn1 P w K mg base "_law_choose" 2 (spN R_choose))
    (F_law_mixed : Fn1 P w K mg base "_law_mixed" 3 (spN R_mixed)) (F_law_step : Fn1 P w K mg base "_law_step" 3 (spN R_step)) : FnOk P w K mg base CX0 4 f fd ["_law_source_here", "_law_width"] (spN R_rules) := by
  refine F.ok sc_law_rules (fun vs H Q E h => spN_len (n := 1) (fun ds S ⟨_, e, _⟩ => by rw [e]; rfl) h) (fun cdv A outer s H vs Q E hr h => ?_)
  obtain ⟨G, so, us, ds, S, rfl, ⟨n, rfl, hn1, hn6, rfl⟩, eG, ms, hd, k⟩ := h
  obtain ⟨v1, r, rfl, h1, hd⟩ := hd.inv
  obtain rfl := hd.inv0
  obtain rfl := h1.eqI
  have nd := sc_law_rules.nd
  refine ⟨_, (pss_cons (ps_asg (pe_tup (pa_cons (pe_fn F_law_draw (hr.mono (by decide)) rfl (pa_cons (pv 0) (pa_cons pe_int pa_nil))) (pa_cons (pe_fn F_law_choose (hr.mono (by decide)) rfl (pa_cons (pv 0) (pa_cons (pe_lst (pa_cons pe_str (pa_cons pe_str (pa_cons pe_str (pa_cons pe_str (pa_cons pe_str pa_nil)))))) pa_nil))) (pa_cons (pe_lst pa_nil) pa_nil)))) (pgTupK K (n := 3) (pgs_cons (pgN 2 nd) (pgs_cons (pgN 3 nd) (pgs_cons (pgN 4 nd) pgs_nil)))))
    (pss_cons (ps_set (i := 5) nd rfl (by first | exact Or.inl rfl | exact Or.inr rfl) (pe_fn F_law_mixed (hr.mono (by decide)) rfl (pa_cons (pv 0) (pa_cons (pv 1) pa_nil))))
    (pss_cons (ps_set (i := 6) nd rfl (by first | exact Or.inl rfl | exact Or.inr rfl) (pe_op op_add pe_int (pe_fn F_law_draw (hr.mono (by decide)) rfl (pa_cons (pv 0) (pa_cons (pv 1) pa_nil)))))
    (pss_cons (ps_if (pt_cmpR (inTK K) (pv 2) (pe_tup (pa_cons pe_int (pa_cons pe_int (pa_cons pe_int (pa_cons pe_int (pa_cons pe_int pa_nil)))))) (by rfl)) (pss_one (ps_set (i := 4) nd rfl (by first | exact Or.inl rfl | exact Or.inr rfl) (pe_lc (own := [("_law_at", 11)]) (by rfl) nd (pi_range1 (by rfl) T.b_range (pa_cons (pe_op op_sub (pv 6) pe_int) pa_nil)) (blkOk_by (own := [("_law_at", 11)]) (N := ["_law_source_here", "_law_width", "_law_way", "_law_kinds", "_law_some", "_law_order", "_law_size", "_law_turn", "_law_a", "_law_b", "_law_by", "_law_at", "_law_one"]) (sc := (defScope s_law_rules)) (by decide +kernel)) (fun _ _ _ _ _ => (pgN 11 nd)) (fun _ _ _ _ _ => pts_nil) (fun _ _ _ _ _ => (pe_fn F_law_step (hr.mono (by decide)) rfl (pa_cons (pv 0) (pa_cons (pe_ix (ix_seqK K) (pv 5) (pv 11) (fun _ _ => rfl)) (pa_cons (pe_ix (ix_seqK K) (pv 5) (pe_op op_add (pv 11) pe_int) (fun _ _ => rfl)) (pa_cons (pv 3) pa_nil))))))))) pss_nil)
    (pss_cons (ps_if (PW.pt (pw_and (pt_cmpR (inTK K) (pv 2) (pe_tup (pa_cons pe_int (pa_cons pe_int (pa_cons pe_int pa_nil)))) (by rfl)) (pw_and1 (pt_cmpR op_gt (pv 6) pe_int (nomark _))))) (pss_one (ps_expr (pe_bm PySem.F.plainAttrs_list PySem.F.slot_list_append PySem.F.type_list_append mt_append (pv 4) (pa_cons (pe_fn F_law_step (hr.mono (by decide)) rfl (pa_cons (pv 0) (pa_cons (pe_ix (ix_seqK K) (pv 5) (pe_op op_sub (pv 6) pe_int) (fun _ _ => rfl)) (pa_cons (pe_ix (ix_seqK K) (pv 5) pe_int (fun _ _ => rfl)) (pa_cons (pv 3) pa_nil))))) pa_nil)))) pss_nil)
    (pss_cons (ps_if (PW.pt (pw_and (pt_cmpR (eqDK K (h64 hr)) (pv 2) pe_int (nomark _)) (pw_and1 (pt_cmpR op_lt (pe_op op_add (pv 6) pe_int) (pv 1) (nomark _))))) (pss_cons (ps_expr (pe_bm PySem.F.plainAttrs_list PySem.F.slot_list_append PySem.F.type_list_append mt_append (pv 4) (pa_cons (pe_fn F_law_step (hr.mono (by decide)) rfl (pa_cons (pv 0) (pa_cons (pe_ix (ix_seqK K) (pv 5) (pv 6) (fun _ _ => rfl)) (pa_cons (pe_ix (ix_seqK K) (pv 5) (pe_op op_add (pv 6) pe_int) (fun _ _ => rfl)) (pa_cons pe_str pa_nil))))) pa_nil)))
    (pss_cons (ps_expr (pe_bm PySem.F.plainAttrs_list PySem.F.slot_list_append PySem.F.type_list_append mt_append (pv 4) (pa_cons (pe_fn F_law_step (hr.mono (by decide)) rfl (pa_cons (pv 0) (pa_cons (pe_ix (ix_seqK K) (pv 5) (pe_op op_add (pv 6) pe_int) (fun _ _ => rfl)) (pa_cons (pe_ix (ix_seqK K) (pv 5) (pv 6) (fun _ _ => rfl)) (pa_cons pe_str pa_nil))))) pa_nil)))
    (pss_one (ps_expr (pe_bm PySem.F.plainAttrs_list PySem.F.slot_list_append PySem.F.type_list_append mt_append (pv 4) (pa_cons (pe_fn F_law_step (hr.mono (by decide)) rfl (pa_cons (pv 0) (pa_cons (pe_ix (ix_seqK K) (pv 5) pe_int (fun _ _ => rfl)) (pa_cons (pe_ix (ix_seqK K) (pv 5) (pv 6) (fun _ _ => rfl)) (pa_cons pe_str pa_nil))))) pa_nil)))))) pss_nil)
    (pss_cons (ps_for PassesOwn.never rfl (pi_range1 (by rfl) T.b_range (pa_cons (pe_ix (ix_seqK K) (pe_lst (pa_cons pe_int (pa_cons pe_int (pa_cons pe_int (pa_cons pe_int (pa_cons pe_int (pa_cons pe_int (pa_cons pe_int (pa_cons pe_int pa_nil))))))))) (pv 2) (fun _ _ => rfl)) pa_nil)) (pgN 7 nd)
    (pss_cons (ps_par (i := 8) (j := 9) rfl nd rfl rfl (by decide) rfl rfl (pa_cons (pe_fn F_law_draw (hr.mono (by decide)) rfl (pa_cons (pv 0) (pa_cons (pv 1) pa_nil))) (pa_cons (pe_fn F_law_draw (hr.mono (by decide)) rfl (pa_cons (pv 0) (pa_cons (pv 1) pa_nil))) pa_nil)) (by rfl))
    (pss_one (ps_if (pt_cmpR (neDK K (h64 hr)) (pv 8) (pv 9) (nomark _)) (pss_one (ps_expr (pe_bm PySem.F.plainAttrs_list PySem.F.slot_list_append PySem.F.type_list_append mt_append (pv 4) (pa_cons (pe_fn F_law_step (hr.mono (by decide)) rfl (pa_cons (pv 0) (pa_cons (pv 8) (pa_cons (pv 9) (pa_cons (pe_ifExp (pt_cmpR op_lt (pv 2) pe_int (nomark _)) pe_str (pv 3)) pa_nil))))) pa_nil)))) pss_nil))))
    (pss_cons (ps_set (i := 10) nd rfl (by first | exact Or.inl rfl | exact Or.inr rfl) (pe_fn F_law_draw (hr.mono (by decide)) rfl (pa_cons (pv 0) (pa_cons (pe_op op_add (pe_callB (crLenK K) (by rfl) T.b_len (by decide +kernel) (pa_cons (pv 4) pa_nil)) pe_int) pa_nil))))
    (pss_cons (ps_set (i := 4) nd rfl (by first | exact Or.inl rfl | exact Or.inr rfl) (pe_op op_cat (pe_slice (slLK K) (pv 4) (po_some (pv 10)) po_none) (pe_slice (slLK K) (pv 4) po_none (po_some (pv 10)))))
    (pss_one (ps_ret (pe_lc (own := [("_law_at", 11), ("_law_one", 12)]) (by rfl) nd (pi_enum (by rfl) T.b_enumerate (pa_cons (pv 4) pa_nil)) (blkOk_by (own := [("_law_at", 11), ("_law_one", 12)]) (N := ["_law_source_here", "_law_width", "_law_way", "_law_kinds", "_law_some", "_law_order", "_law_size", "_law_turn", "_law_a", "_law_b", "_law_by", "_law_at", "_law_one"]) (sc := (defScope s_law_rules)) (by decide +kernel)) (fun _ _ _ _ _ => (pgTupK K (n := 2) (pgs_cons (pgN 11 nd) (pgs_cons (pgN 12 nd) pgs_nil)))) (fun _ _ _ _ _ => pts_one (pt_cmpR (notInDK K (h65 hr)) (pv 12) (pe_slice (slLK K) (pv 4) po_none (po_some (pv 11))) (by rfl))) (fun _ _ _ _ _ => (pv 12)))))))))))))), ?_⟩
  show tSeq _ _ _ [some (.ref so), some (.int (n : Int)), none, none, none, none, none, none, none, none, none, none, none] H
  refine q_trio (S1 := fun d => ∃ m, m < 8 ∧ d = I1 m) (S2 := fun d => ∃ x, KD x ∧ d = .str x) (n_call (v_var rfl) (a_cons d_int a_nil) ⟨8, rfl, by decide, by decide, rfl⟩)
    (n_weak (n_call (v_var rfl) (a_cons (d_lst (a_cons d_str (a_cons d_str (a_cons d_str (a_cons d_str (a_cons d_str a_nil))))) (by show 5 ≤ 100000; decide)) a_nil) (.inl ⟨_, rfl, by simp, by show 5 ≤ 100000; decide, rfl⟩)) fun d hd => ?_) (m_lst a_nil) eG ms ?_
  · simp only [List.mem_cons, List.not_mem_nil, or_false] at hd
    rcases hd with rfl | rfl | rfl | rfl | rfl
    · exact ⟨_, KD.s, rfl⟩
    · exact ⟨_, KD.ww, rfl⟩
    · exact ⟨_, KD.sw, rfl⟩
    · exact ⟨_, KD.sw, rfl⟩
    · exact ⟨_, KD.sw, rfl⟩
  rintro v1 d1 v2 d2 p G1 H1 ⟨m, hm, rfl⟩ ⟨x, hx, rfl⟩ hp g1 ms1 hv1 hv2 ml1
  obtain rfl := hv1.eqI
  obtain rfl := hv2.eqS
  show tSeq _ _ _ [some (.ref so), some (.int (n : Int)), some (.int (m : Int)), some (.str x), some (.ref p), none, none, none, none, none, none, none, none] H1
  refine q_asgN (s := so) (n_call (v_var rfl) (a_cons (d_var rfl (.int _)) a_nil) ⟨n, rfl, by omega, rfl⟩) g1.gh ms1 fun vo d3 G2 H2 hd3 g2 ms2 hvo => ?_
  obtain ⟨ns, hnd, hlen, hlt, rfl⟩ := hd3
  show tSeq _ _ _ [some (.ref so), some (.int (n : Int)), some (.int (m : Int)), some (.str x), some (.ref p), some vo, none, none, none, none, none, none, none] H2
  refine q_asgN (s := so) (S := fun d => ∃ sz, 1 ≤ sz ∧ sz ≤ n ∧ d = I1 sz) (n_op (n_d d_int) (n_call (v_var rfl) (a_cons (d_var rfl (.int _)) a_nil) ⟨n, rfl, by omega, by omega, rfl⟩) fun d e hd he => ?_) g2.gh ms2 fun v4 d4 G3 H3 hd4 g3 ms3 hv4 => ?_
  · subst hd
    obtain ⟨q, hq, rfl⟩ := he
    exact ⟨I1 (1 + q), ⟨1 + q, by omega, by omega, rfl⟩, RvD.is r_I0 (congrArg PyData.int (by omega))⟩
  obtain ⟨sz, hs1, hsn, rfl⟩ := hd4
  obtain rfl := hv4.eqI
  have hpso : p ≠ so := ms.ne hp
  obtain ⟨c, hc⟩ : ∃ c : Cst, c = ⟨so, n, m, x, ns, sz, G, H⟩ := ⟨_, rfl⟩
  have o : Ord c := by subst hc; exact ⟨hnd, hlen, hlt, hm, hx, hs1, hsn, hn6⟩
  have st0 : St c 0 [some (.ref so), some (.int (n : Int)), some (.int (m : Int)), some (.str x), some (.ref p), some vo, some (.int (sz : Int)), none, none, none, none, none, none] G3 H3 := by
    subst hc
    exact ⟨p, vo, [], none, none, none, none, rfl, (g1.trans g2).trans g3, ms3, (ml1.grow g2 fun z => hpso z).grow g3 fun z => hpso z, hp, hvo.up g3.g, (fun r hr => nomatch hr), Nat.le_refl _, hpso⟩
  have en : c.n = n := by subst hc; rfl
  have eG0 : c.G = G := by subst hc; rfl
  have eH0 : c.H = H := by subst hc; rfl
  have eso : c.so = so := by subst hc; rfl
  have em : c.m = m := by subst hc; rfl
  have ex : c.x = x := by subst hc; rfl
  have ens : c.ns = ns := by subst hc; rfl
  have esz : c.sz = sz := by subst hc; rfl
  clear hc
  subst en eG0 eH0 eso em ex ens esz
  clear ml1 g1 g2 g3 ms1 ms2 ms3 hvo hv1 hv2 hv4
  show tSeq _ _ _ [some (.ref c.so), some (.int (c.n : Int)), some (.int (c.m : Int)), some (.str c.x), some (.ref p), some vo, some (.int (c.sz : Int)), none, none, none, none, none, none] H3
  revert st0
  generalize ([some (.ref c.so), some (.int (c.n : Int)), some (.int (c.m : Int)), some (.str c.x), some (.ref p), some vo, some (.int (c.sz : Int)), none, none, none, none, none, none] : VSt) = σ0
  intro st0
  have vm : ∀ {L σ' G' H'}, St c L σ' G' H' → EvD (tVar 2) σ' G' (.int (c.m : Int)) := fun ⟨p, vo, rs, o7, o8, o9, o10, e, _⟩ => by subst e; exact d_var rfl (.int _)
  have vsz : ∀ {L σ' G' H'}, St c L σ' G' H' → EvD (tVar 6) σ' G' (.int (c.sz : Int)) := fun ⟨p, vo, rs, o7, o8, o9, o10, e, _⟩ => by subst e; exact d_var rfl (.int _)
  have vn : ∀ {L σ' G' H'}, St c L σ' G' H' → EvD (tVar 1) σ' G' (.int (c.n : Int)) := fun ⟨p, vo, rs, o7, o8, o9, o10, e, _⟩ => by subst e; exact d_var rfl (.int _)
  have vx : ∀ {L σ' G' H'}, St c L σ' G' H' → EvD (tVar 3) σ' G' (.str c.x) := fun ⟨p, vo, rs, o7, o8, o9, o10, e, _⟩ => by subst e; exact d_var rfl (.str _)
  have hs1 := o.s1
  have hsn := o.sn
  have ho6 := o.n6
  have tup3 : ∀ {σ : VSt} {G : Hp} {i j l : Int}, EvD (tTup (tCons (tC (.int i)) (tCons (tC (.int j)) (tCons (tC (.int l)) tNil)))) σ G (.tuple ([i, j, l].map PyData.int)) := d_tup (a_cons d_int (a_cons d_int (a_cons d_int a_nil))) (by show 3 ≤ 100000; decide)
  -- if way in (..): some = [..]
  refine q_whenSt (L' := 6) (b_inI (is := [1, 2, 3, 4, 5]) (vm st0) (d_tup (a_cons d_int (a_cons d_int (a_cons d_int (a_cons d_int (a_cons d_int a_nil))))) (by show 5 ≤ 100000; decide))) st0 (by decide) (fun σ1 G1 H1 st1 => ?_) fun hb G4 H4 st4 k' => ?_
  rotate_left
  · obtain ⟨p4, vo4, rs4, o7, o8, o9, o10, rfl, g4, ms4, ml4, hp4, hvo4, hv4, hl4, hne4⟩ := id st4
    refine s_asgNM (s := c.so) (nm_lcR (n := c.sz - 1) (S := fun d => ∃ r : Ru, validR c.n r ∧ d = RU r) (a_cons ((d_op (d_var rfl (.int _)) d_int r_I0).is (congrArg PyData.int (by omega))) a_nil) (by omega)
      (fun y G1 H1 hy e1 e2 Q q => q _ rfl ?_)) g4.gh ms4 fun p5 ds5 G5 H5 hA hp5 g5 ms5 ml5 => ?_
    · have hi1 : y < c.n := by omega
      have hi2 : y + 1 < c.n := by omega
      exact n_call (v_var rfl) (a_cons (d_op (d_var rfl (hvo4.up e1)) (d_var rfl (.int _)) (r_ixL (atI_at (by rw [List.getElem?_map, List.getElem?_eq_getElem (by rw [o.len]; exact hi1)]; rfl))))
        (a_cons (d_op (d_var rfl (hvo4.up e1)) (d_op (d_var rfl (.int _)) d_int r_I0) (r_ixL (by
          rw [show ((y : Int) + 1) = ((y + 1 : Nat) : Int) by omega]
          exact atI_at (by rw [List.getElem?_map, List.getElem?_eq_getElem (by rw [o.len]; exact hi2)]; rfl))))
          (a_cons (d_var rfl (.str _)) a_nil))) ⟨c.n, _, _, c.x, rfl, o.ok hi1, o.ok hi2, o.ne hi1 hi2 (by omega), o.kd, rfl⟩
    · obtain ⟨rs5, rfl, hv5⟩ := all_enc hA.2
      have hl5 := hA.1
      rw [List.length_map] at hl5
      exact k' _ G5 H5 ⟨p5, vo4, rs5, o7, o8, o9, o10, rfl, g4.trans g5, ms5, ml5, g4.there p5 hp5, hvo4.up g5.g, hv5, by omega, ms4.ne hp5⟩
  -- if way in (..) and size > 1: some.append(..)
  refine q_whenSt (L' := 7) (b_and (b_inI (is := [2, 3, 5]) (vm st1) tup3) fun _ => b_test (d_op (vsz st1) d_int r_B0)) st1 (by decide) (fun σ2 G2 H2 st2 => ?_) fun hb G4 H4 st4 k' => ?_
  rotate_left
  · have h1 : 1 < c.sz := by
      have := of_decide_eq_true (Bool.and_eq_true_iff.mp hb).2
      omega
    exact st_app st4 (o.args (i := c.sz - 1) (j := 0) st4 (by omega) (by omega) (by omega) (d_op (vsz st4) d_int r_I0) (by omega) d_int rfl (vx st4) o.kd) (by omega) fun G5 H5 _ st5 => k' _ _ _ st5
  -- if way == 5 and size + 1 < width: ..
  refine q_whenSt (L' := 10) (b_and (b_test (d_op (vm st2) d_int (r_eq (lay_int _).shaped (lay_int _).shaped))) fun _ => b_test (d_op (d_op (vsz st2) d_int r_I0) (vn st2) r_B0)) st2 (by decide) (fun σ3 G3 H3 st3 => ?_) fun hb G4 H4 st4 k' => ?_
  rotate_left
  · have h1 : c.sz + 1 < c.n := by
      have := of_decide_eq_true (Bool.and_eq_true_iff.mp hb).2
      omega
    refine q_st_app st4 (o.args (i := c.sz) (j := c.sz + 1) st4 (by omega) (by omega) (by omega) (vsz st4) rfl (d_op (vsz st4) d_int r_I0) (by omega) d_str KD.s) (by omega) fun G5 H5 _ st5 => ?_
    refine q_st_app st5 (o.args (i := c.sz + 1) (j := c.sz) st5 (by omega) (by omega) (by omega) (d_op (vsz st5) d_int r_I0) (by omega) (vsz st5) rfl d_str KD.ww) (by omega) fun G6 H6 _ st6 => ?_
    exact st_app st6 (o.args (i := 0) (j := c.sz) st6 (by omega) (by omega) (by omega) d_int rfl (vsz st6) rfl d_str KD.sw) (by omega) fun G7 H7 _ st7 => k' _ _ _ st7
  -- for turn in range([..][way]): ..
  obtain ⟨q, hq, hql⟩ := tbl_le c.m o.m8
  have hA : EvA (tCons (tOp (rIx K) (tLst (tCons (tC (.int 3)) (tCons (tC (.int 1)) (tCons (tC (.int 0)) (tCons (tC (.int 2)) (tCons (tC (.int 2)) (tCons (tC (.int 1)) (tCons (tC (.int 12)) (tCons (tC (.int 6)) tNil))))))))) (tVar 2)) tNil) σ3 G3 [.int (q : Int)] :=
    a_cons (d_op (d_lst (ds := tbl.map I1) (a_cons d_int (a_cons d_int (a_cons d_int (a_cons d_int (a_cons d_int (a_cons d_int (a_cons d_int (a_cons d_int a_nil)))))))) (by decide)) (vm st3) (r_ixL (atI_at (by rw [List.getElem?_map, hq]; rfl)))) a_nil
  refine q_forR hA st3.gh (by omega) (fun i σ' G' H' => St c (10 + i) σ' G' H') (fun G4 H4 g4 => st3.grow0 g4) ?_ ?_
  · rintro i σ' G4 H4 hi eG4 eH4 ⟨p4, vo4, rs4, o7, o8, o9, o10, rfl, g4, ms4, ml4, hp4, hvo4, hv4, hl4, hne4⟩ Nx hNx
    show tSeq _ _ _ [some (.ref c.so), some (.int (c.n : Int)), some (.int (c.m : Int)), some (.str c.x), some (.ref p4), some vo4, some (.int (c.sz : Int)), some (.int (i : Int)), o8, o9, o10, none, none] H4
    refine q_parNN (s := c.so) (n_call (v_var rfl) (a_cons (d_var rfl (.int _)) a_nil) ⟨c.n, rfl, by omega, by omega, rfl⟩) (n_call (v_var rfl) (a_cons (d_var rfl (.int _)) a_nil) ⟨c.n, rfl, by omega, by omega, rfl⟩) eH4 ms4 fun va da vb db G5 H5 hda hdb g5 ms5 hva hvb => ?_
    obtain ⟨a, ha, rfl⟩ := hda
    obtain ⟨b, hb, rfl⟩ := hdb
    obtain rfl := hva.eqI
    obtain rfl := hvb.eqI
    show tIfS _ _ _ _ [some (.ref c.so), some (.int (c.n : Int)), some (.int (c.m : Int)), some (.str c.x), some (.ref p4), some vo4, some (.int (c.sz : Int)), some (.int (i : Int)), some (.int (a : Int)), some (.int (b : Int)), o10, none, none] H5
    have st5 : St c (10 + i) [some (.ref c.so), some (.int (c.n : Int)), some (.int (c.m : Int)), some (.str c.x), some (.ref p4), some vo4, some (.int (c.sz : Int)), some (.int (i : Int)), some (.int (a : Int)), some (.int (b : Int)), o10, none, none] G5 H5 :=
      ⟨p4, vo4, rs4, _, _, _, _, rfl, g4.trans g5, ms5, ml4.grow g5 (fun z => hne4 z), hp4, hvo4.up g5.g, hv4, hl4, hne4⟩
    refine s_when (b := !PyData.eqv (I1 a) (I1 b)) (b_test (d_op (d_var rfl (.int _)) (d_var rfl (.int _)) (r_ne (lay_int _).shaped (lay_int _).shaped))) g5.gh (fun hb' G6 H6 g6 => ?_) fun _ G6 H6 g6 => hNx _ G6 H6 (g5.g.trans g6.g) g6.gh ((st5.grow0 g6).le (by omega))
    have hab : a ≠ b := fun z => by
      rw [eqv_I1, decide_eq_true z] at hb'
      exact absurd hb' (by decide)
    have st6 := st5.grow0 g6
    refine st_app st6 ⟨a, b, if decide ((c.m : Int) < 7) = true then "sw" else c.x, a_cons (d_var rfl (.int _)) (a_cons (d_var rfl (.int _)) (a_cons ((d_if (b_test (d_op (vm st6) d_int r_B0)) (fun _ => d_str) fun _ => vx st6).is (by split <;> rfl)) a_nil)), ha, hb, hab, ?_⟩ (by omega) fun G7 H7 e7 st7 => hNx _ G7 H7 ((g5.g.trans g6.g).trans e7) st7.gh st7
    split
    · exact KD.sw
    · exact o.kd
  · rintro σ' G4 H4 eG4 eH4 ⟨p4, vo4, rs4, o7, o8, o9, o10, rfl, g4, ms4, ml4, hp4, hvo4, hv4, hl4, hne4⟩
    obtain ⟨G5, g5, e5, hd5, oth⟩ := ml4.fin g4 hp4
    obtain ⟨a, b, c', m4⟩ := ms4.ml
    have ms5 : Src G5 H4 c.so := Src.ofML (oth c.so _ (fun z => hne4 z.symm) m4)
    have hlen4 : (rs4.map RU).length ≤ 22 := by rw [List.length_map]; omega
    refine q_asgN (s := c.so) (S := fun d => ∃ m, d = I1 m) (n_weak (n_call (v_var rfl) (a_cons ((d_op (d_cb (a_cons (d_var (σ := [some (.ref c.so), some (.int (c.n : Int)), some (.int (c.m : Int)), some (.str c.x), some (.ref p4), some vo4, some (.int (c.sz : Int)), o7, o8, o9, o10, none, none]) (i := 4) rfl hd5) a_nil) (c_lenL (K := K))) d_int r_I0).is (d' := I1 (rs4.length + 1)) (by rw [List.length_map]; exact congrArg PyData.int (by omega))) a_nil) ⟨rs4.length + 1, rfl, by omega, by omega, rfl⟩) fun d ⟨m, _, e⟩ => ⟨m, e⟩) g5.gh ms5 fun v6 d6 G6 H6 hd6 g6 ms6 hv6 => ?_
    obtain ⟨by_, rfl⟩ := hd6
    obtain rfl := hv6.eqI
    show tSeq _ _ _ [some (.ref c.so), some (.int (c.n : Int)), some (.int (c.m : Int)), some (.str c.x), some (.ref p4), some vo4, some (.int (c.sz : Int)), o7, o8, o9, some (.int (by_ : Int)), none, none] H6
    obtain ⟨ya, eya, hya⟩ := cut_map RU rs4 (some (by_ : Int)) none
    obtain ⟨yb, eyb, hyb⟩ := cut_map RU rs4 none (some (by_ : Int))
    have hva := m_slL (K := K) (te := tVar 4) (tl := tPart (tVar 10)) (th := tNoPart) (σ := [some (.ref c.so), some (.int (c.n : Int)), some (.int (c.m : Int)), some (.str c.x), some (.ref p4), some vo4, some (.int (c.sz : Int)), o7, o8, o9, some (.int (by_ : Int)), none, none]) (G := G6) (d_var rfl (hd5.up g6.g)) (o_some (d_var rfl (.int _))) o_none
    have hvb := m_slL (K := K) (te := tVar 4) (tl := tNoPart) (th := tPart (tVar 10)) (σ := [some (.ref c.so), some (.int (c.n : Int)), some (.int (c.m : Int)), some (.str c.x), some (.ref p4), some vo4, some (.int (c.sz : Int)), o7, o8, o9, some (.int (by_ : Int)), none, none]) (G := G6) (d_var rfl (hd5.up g6.g)) o_none (o_some (d_var rfl (.int _)))
    rw [eya] at hva
    rw [eyb] at hvb
    have hlya := hya.length_le
    have hlyb := hyb.length_le
    have hqs := m_catL hva.toD hvb.toD (by rw [List.length_map, List.length_map]; omega)
    rw [← List.map_append] at hqs
    have hqv : ∀ r ∈ ya ++ yb, validR c.n r := fun r hr => (List.mem_append.mp hr).elim (fun z => hv4 r (hya.subset z)) fun z => hv4 r (hyb.subset z)
    have hql : (ya ++ yb).length ≤ 44 := by rw [List.length_append]; omega
    clear hva hvb eya eyb hya hyb hlya hlyb
    generalize ya ++ yb = qs at *
    refine q_asg hqs.toD g6.gh fun v7 G7 H7 g7 hv7 => ?_
    show tRet _ _ [some (.ref c.so), some (.int (c.n : Int)), some (.int (c.m : Int)), some (.str c.x), some v7, some vo4, some (.int (c.sz : Int)), o7, o8, o9, some (.int (by_ : Int)), none, none] H7
    have hfin := m_lcE (K := K) (vs := [11, 12]) (enc := RU) (xs := qs) (σ := [some (.ref c.so), some (.int (c.n : Int)), some (.int (c.m : Int)), some (.str c.x), some v7, some vo4, some (.int (c.sz : Int)), o7, o8, o9, some (.int (by_ : Int)), none, none]) (G := G7)
      (ta := tCons (tVar 4) tNil) (g := gTup K 2 (gCons (gName 11) (gCons (gName 12) gNil))) (tt := tTest (tOp (rNotInD K) (tVar 12) (tSl (rSlL K) (tVar 4) tNoPart (tPart (tVar 11))))) (te := tVar 12)
      (fun i => decide (qs.getD i (true, 0, 0) ∉ qs.take i)) (fun i => RU (qs.getD i (true, 0, 0))) (a_cons (d_var rfl hv7) a_nil) (by omega) (fun i x v G1 H1 hi e1 e2 hv Q qk => g_tup2 hv e2 fun u1 u2 k1 k2 => qk _ rfl (by
        have ei : qs.getD i (true, 0, 0) = x := by rw [List.getD_eq_getElem?_getD, hi]; rfl
        have hs := m_slL (K := K) (te := tVar 4) (tl := tNoPart) (th := tPart (tVar 11)) (σ := [some (.ref c.so), some (.int (c.n : Int)), some (.int (c.m : Int)), some (.str c.x), some v7, some vo4, some (.int (c.sz : Int)), o7, o8, o9, some (.int (by_ : Int)), some u1, some u2]) (G := G1) (d_var rfl (hv7.up e1)) o_none (o_some (d_var rfl k1))
        have ec : cutD (qs.map RU) none (some (i : Int)) = (qs.take i).map RU := by
          have hil := (List.getElem?_eq_some_iff.mp hi).1
          unfold cutD
          rw [HT.sIx_none, List.drop_zero, Nat.sub_zero, List.length_map]
          show ((qs.map RU).take (if (i : Int) < 0 then ((i : Int) + (qs.length : Int)).toNat else min ((i : Int)).toNat qs.length)) = _
          rw [if_neg (by omega), ← List.map_take]
          congr 2
          omega
        rw [ec] at hs
        have z := b_test (d_op (d_var (σ := [some (.ref c.so), some (.int (c.n : Int)), some (.int (c.m : Int)), some (.str c.x), some v7, some vo4, some (.int (c.sz : Int)), o7, o8, o9, some (.int (by_ : Int)), some u1, some u2]) (i := 12) rfl k2) hs.toD (r_notin (K := K) (lay_RU x).shaped (lay_map lay_RU (qs.take i)).shaped))
        rw [any_eqv eqv_RU] at z
        rw [ei]
        refine z.is ?_
        by_cases hx : x ∈ qs.take i
        · simp [hx]
        · simp [hx]) fun _ => by
        have ei : qs.getD i (true, 0, 0) = x := by rw [List.getD_eq_getElem?_getD, hi]; rfl
        rw [ei]
        exact d_var rfl k2)
    have hgood : GoodL c.n ((firstly (true, 0, 0) qs).map fun i => qs.getD i (true, 0, 0)) := ⟨Nat.le_trans (firstly_len _ qs) (by omega), fun r hr => hqv r (firstly_mem _ qs hr), firstly_nodup _ qs⟩
    refine s_ret hfin.toD g7.gh fun v8 G8 H8 g8 hv8 => k v8 _ G8 H8 ⟨_, hgood, ?_⟩ ((((g5.trans g6).then0 g7)).then0 g8) ((ms6.grow0 g7).grow0 g8) hv8
    have ef : ((List.range qs.length).filter fun i => decide (qs.getD i (true, 0, 0) ∉ qs.take i)) = firstly (true, 0, 0) qs := by
      unfold firstly
      exact List.filter_congr fun i _ => decide_eq_decide.mpr Iff.rfl
    rw [List.map_map, ef]
    rfl
end
end CP
set_option Elab.async false
set_option linter.all false
set_option maxRecDepth 100000
set_option maxHeartbeats 4000000
namespace CP
open PySem L2 CL CM
theorem t_yes {σ : VSt} {G : Hp} : EvB tYes σ G true := fun G1 H1 _ e2 Q q => q G1 H1 (Grow.refl e2)
theorem lc_all {α : Type} (xs : List α) (f : α → PyData) : (xs.filter fun _ => true).map f = xs.map f := by rw [List.filter_eq_self.mpr fun _ _ => rfl]
section
variable {P : Program} {w : World} {K : PySem.W.Frag} {mg : Str → Option Value} {base : Heap} {Z : Ads}
def R_all : List PyData → (PyData → Prop) → Prop := fun ds S => ∃ (n : Nat), ds = [I1 n] ∧ n ≤ 6 ∧ S = fun d => d = .list ((allR n).map RU)
theorem flat_take {α β : Type} (f : α → List β) (xs : List α) (i : Nat) (x : α) (h : xs[i]? = some x) : (xs.take (i + 1)).flatMap f = (xs.take i).flatMap f ++ f x := by
  rw [List.take_add_one, h, List.flatMap_append]
  show _ ++ [x].flatMap _ = _
  rw [List.flatMap_singleton]
theorem allOf_len (n : Nat) (k : Bool) (a : Nat) : (allOf n k a).length ≤ n := by
  unfold allOf
  rw [List.length_map]
  have := List.length_filter_le (fun b => decide (b ≠ a)) (List.range n)
  rw [List.length_range] at this
  exact this
theorem flat_le {α β : Type} (f : α → List β) (n : Nat) (h : ∀ x, (f x).length ≤ n) : ∀ xs : List α, (xs.flatMap f).length ≤ n * xs.length
  | [] => by simp
  | x :: xs => by
    rw [List.flatMap_cons, List.length_append, List.length_cons, Nat.mul_succ]
    have := h x
    have := flat_le f n h xs
    omega
theorem allK_len (n : Nat) (k : Bool) : (allK n k).length ≤ n * n := by
  have := flat_le (allOf n k) n (allOf_len n k) (List.range n)
  rw [List.length_range] at this
  exact this
theorem sc_law_all : FnScope ["_law_width", "_law_found", "_law_kind", "_law_a", "_law_b"] ["_law_width"] (defScope s_law_all) := ⟨rfl, rfl, rfl, by decide +kernel, rfl, by decide +kernel, by decide +kernel⟩
theorem ok_law_all {f : Addr} {fd : FuncData} (F : Fun K "_law_all" "_law_all" s_law_all f fd) (T : Txt Z K mg) : FnOk P w K mg base CX0 1 f fd ["_law_width"] (spR R_all) := by
  refine F.ok sc_law_all (fun vs H Q E h => spR_len (n := 1) (fun ds S ⟨_, e, _⟩ => by rw [e]; rfl) h) (fun cdv A outer s H vs Q E hr h => ?_)
  obtain ⟨G, ds, S, ⟨n, rfl, hn, rfl⟩, eG, hd, k⟩ := h
  obtain ⟨v1, r, rfl, h1, hd⟩ := hd.inv
  obtain rfl := hd.inv0
  obtain rfl := h1.eqI
  have nd := sc_law_all.nd
  have hnn : n * n ≤ 36 := Nat.mul_le_mul hn hn
  refine ⟨_, (pss_cons (ps_set (i := 1) nd rfl (by first | exact Or.inl rfl | exact Or.inr rfl) (pe_lst pa_nil))
    (pss_cons (ps_for PassesOwn.never rfl (piTupK K (pe_tup (pa_cons pe_str (pa_cons pe_str pa_nil)))) (pgN 2 nd)
    (pss_one (ps_for PassesOwn.never rfl (pi_range1 (by rfl) T.b_range (pa_cons (pv 0) pa_nil)) (pgN 3 nd)
    (pss_one (ps_expr (pe_bm PySem.F.plainAttrs_list PySem.F.slot_list_extend PySem.F.type_list_extend mt_extend (pv 1) (pa_cons (pe_lc (own := [("_law_b", 4)]) (by rfl) nd (pi_range1 (by rfl) T.b_range (pa_cons (pv 0) pa_nil)) (blkOk_by (own := [("_law_b", 4)]) (N := ["_law_width", "_law_found", "_law_kind", "_law_a", "_law_b"]) (sc := (defScope s_law_all)) (by decide +kernel)) (fun _ _ _ _ _ => (pgN 4 nd)) (fun _ _ _ _ _ => pts_one (pt_cmpR (neDK K (h64 hr)) (pv 4) (pv 3) (nomark _))) (fun _ _ _ _ _ => (pe_tup (pa_cons (pv 2) (pa_cons (pv 3) (pa_cons (pv 4) pa_nil)))))) pa_nil)))))))
    (pss_one (ps_ret (pv 1))))), ?_⟩
  show tSeq _ _ _ [some (.int (n : Int)), none, none, none, none] H
  refine q_asgM (m_lst a_nil) eG fun pf G1 H1 hpf g1 mf => ?_
  show tSeq _ _ _ [some (.int (n : Int)), some (.ref pf), none, none, none] H1
  refine q_forT (enc := fun k : Bool => PyData.str (kd k)) (xs := [true, false]) (d_tup (a_cons d_str (a_cons d_str a_nil))) g1.gh
    (fun i σ' G' H' => ∃ o2 o3, σ' = [some (.int (n : Int)), some (.ref pf), o2, o3, none] ∧ Grow M0 G H G' H' ∧ ML G' H' pf ((([true, false].take i).flatMap (allK n)).map RU))
    (fun G2 H2 g2 => ⟨none, none, rfl, g1.trans g2, mf.grow0 g2⟩) ?_ ?_
  · rintro i kk v σ' G2 H2 hi eG2 eH2 hv ⟨o2, o3, rfl, g2, m2⟩ Nx hNx
    rw [flat_take _ _ _ _ hi] at hNx
    have hlen2 : ([true, false].take i).flatMap (allK n) |>.length |> (· ≤ 36 * 2) := by
      have h1 := flat_le (allK n) (n * n) (allK_len n) ([true, false].take i)
      have h2 : ([true, false].take i).length ≤ 2 := List.length_take_le' i [true, false]
      have h3 := Nat.mul_le_mul hnn h2
      exact Nat.le_trans h1 h3
    generalize ([true, false].take i).flatMap (allK n) = rs0 at *
    show tFor _ _ _ _ [some (.int (n : Int)), some (.ref pf), some v, o3, none] H2
    refine s_forR (a_cons (d_var rfl (.int _)) a_nil) eH2 (by omega) (fun j σ' G' H' => ∃ o3, σ' = [some (.int (n : Int)), some (.ref pf), some v, o3, none] ∧ Grow M0 G H G' H' ∧ DD G' v (.str (kd kk)) ∧ ML G' H' pf ((rs0 ++ ((List.range n).take j).flatMap (allOf n kk)).map RU))
      (fun G3 H3 g3 => ⟨o3, rfl, g2.trans g3, hv.up g3.g, by
        have e : rs0 ++ ((List.range n).take 0).flatMap (allOf n kk) = rs0 := by simp
        rw [e]; exact m2.grow0 g3⟩) ?_ ?_
    · rintro j σ' G3 H3 hj eG3 eH3 ⟨o3, rfl, g3, hv3, m3⟩ Nx2 hNx2
      have hj2 : (List.range n)[j]? = some j := List.getElem?_range hj
      have hlen3 : (((List.range n).take j).flatMap (allOf n kk)).length ≤ 36 := by
        have h1 := flat_le (allOf n kk) n (allOf_len n kk) ((List.range n).take j)
        have h2 : ((List.range n).take j).length ≤ n := by rw [List.length_take, List.length_range]; omega
        exact Nat.le_trans h1 (Nat.le_trans (Nat.mul_le_mul_left n h2) hnn)
      rw [flat_take _ _ _ _ hj2, ← List.append_assoc] at hNx2
      generalize ((List.range n).take j).flatMap (allOf n kk) = rs1 at *
      have hlo := allOf_len n kk j
      have z := m_lcR (vs := [4]) (g := gName 4) (tt := tTest (tOp (rNeD K) (tVar 4) (tVar 3))) (te := tTup (tCons (tVar 2) (tCons (tVar 3) (tCons (tVar 4) tNil)))) (σ := [some (.int (n : Int)), some (.ref pf), some v, some (.int (j : Int)), none]) (G := G3) (fun b => decide (b ≠ j)) (fun b => RU (kk, j, b))
        (a_cons (d_var (i := 0) rfl (.int (n : Int))) a_nil) (by omega) (fun x G1 H1 hx e1 e2 Q q => q _ rfl ((b_test (d_op (d_var rfl (.int _)) (d_var rfl (.int _)) (r_ne (lay_int _).shaped (lay_int _).shaped))).is (by
          rw [eqv_I1]
          by_cases h : x = j <;> simp [h])) fun _ => d_tup (a_cons (d_var rfl (hv3.up e1)) (a_cons (d_var rfl (.int _)) (a_cons (d_var rfl (.int _)) a_nil))))
      have ez : ((List.range n).filter fun b => decide (b ≠ j)).map (fun b => RU (kk, j, b)) = (allOf n kk j).map RU := by
        unfold allOf
        rw [List.map_map]
        rfl
      rw [ez] at z
      refine s_ext (v_var rfl) m3 z.toD eH3 (by rw [List.length_map, List.length_map, List.length_append]; omega) fun G4 H4 g4 m4 => ?_
      refine hNx2 _ G4 H4 g4.g g4.gh ⟨_, rfl, g3.priv g4 hpf, hv3.up g4.g, ?_⟩
      rw [← List.map_append] at m4
      exact m4
    · rintro σ' G3 H3 eG3 eH3 ⟨o3, rfl, g3, hv3, m3⟩
      have e : (List.range n).take n = List.range n := by rw [List.take_of_length_le]; rw [List.length_range]; exact Nat.le_refl _
      rw [e] at m3
      exact hNx _ G3 H3 eG3 eH3 ⟨_, _, rfl, g3, m3⟩
  · rintro σ' G2 H2 eG2 eH2 ⟨o2, o3, rfl, g2, m2⟩
    obtain ⟨G3, g3, _, hd3, _⟩ := m2.fin g2 hpf
    have e : ([true, false].take [true, false].length).flatMap (allK n) = allR n := by
      unfold allR
      simp
    rw [e] at hd3
    exact s_ret (d_var rfl hd3) g3.gh fun v G4 H4 g4 hv => k v _ G4 H4 rfl (g3.trans g4) hv
/-! ### _law_list -/
structure TxtL (Z : Ads) (K : PySem.W.Frag) (mg : Str → Option Value) (mc : Value) (pR gR gC : Addr) : Prop where
  k_Rules : mg "Rules" = some (.ref Z.aR)
  rdR : ClX.CRead K Z.aR mc
  mRead : ClX.CMet K Z.aR mc "read" pR gR
  callO : StX.CallO K Z.aR gC
def spList (C : Addr) : Sp := fun vs H Q _ => ∃ (G : Hp) (u : V) (rs : List Ru) (n : Nat), vs = [.int (n : Int), u] ∧ Ex G H ∧ DD G u (.list (rs.map RU)) ∧ GoodL n rs ∧ 1 ≤ n ∧ n ≤ 6 ∧ ∀ v G2 H2, Grow M0 G H G2 H2 → RO C G2 v n rs → Q v H2
theorem c_strD {n : Nat} (h : n < 6) : RcD (fun xs H Q => ∃ i, xs = [V.int i] ∧ i.natAbs.log2 < 1920 ∧ Q (V.str (toString i)) H) [.int (n : Int)] (.str (Str.ofString (toString (n : Int)))) := c_strInt (by omega)
theorem sum_lines (rs : List Ru) : ((rs.map fun r => S (lineL r ++ [10])).map (·.length)).sum ≤ 12 * rs.length := by
  induction rs with
  | nil => simp
  | cons r rs ih =>
    rw [List.map_cons, List.map_cons, List.sum_cons, List.length_cons]
    have h := lineL_len r
    have e : (S (lineL r ++ [10])).length = (lineL r).length + 1 := by
      show (lineL r ++ [10]).toArray.size = _
      simp
    rw [e]
    omega
theorem d_catS {σ : VSt} {G : Hp} {ta tb : TE} {l m : List Nat} (ha : EvD ta σ G (.str (S l))) (hb : EvD tb σ G (.str (S m))) (hl : l.length + m.length ≤ 100000 := by simp) :
    EvD (tOp (fun x y H Q => ∃ i j, x = V.str i ∧ y = V.str j ∧ i.length + j.length ≤ sizeLine ∧ Q (V.str (i ++ j)) H) ta tb) σ G (.str (S (l ++ m))) := by
  have e1 : (S l).length = l.length := by show l.toArray.size = _; simp
  have e2 : (S m).length = m.length := by show m.toArray.size = _; simp
  have z := d_op ha hb (r_catS (x := S l) (y := S m) (by rw [e1, e2]; exact hl))
  have e : (S l ++ S m : Str) = S (l ++ m) := SX.S_cat _ _
  rw [e] at z
  exact z
theorem d_strD {σ : VSt} {G : Hp} {ta : TE} {n : Nat} (h : n < 6) (ha : EvD ta σ G (I1 n)) : EvD (tCB (fun xs H Q => ∃ i, xs = [V.int i] ∧ i.natAbs.log2 < 1920 ∧ Q (V.str (toString i)) H) (tCons ta tNil)) σ G (.str (S [48 + n])) :=
  (d_cb (a_cons ha a_nil) (c_strD h)).is (by rw [dig_num (by omega)]; rfl)
theorem sc_law_list : FnScope ["_law_width", "_law_rules_here", "_law_kind", "_law_a", "_law_b"] ["_law_width", "_law_rules_here"] (defScope s_law_list) := ⟨rfl, rfl, rfl, by decide +kernel, rfl, by decide +kernel, by decide +kernel⟩
theorem ok_law_list {f : Addr} {fd : FuncData} {mc : Value} {pR gR gC : Addr} (F : Fun K "_law_list" "_law_list" s_law_list f fd) (T : Txt Z K mg) (U : TxtL Z K mg mc pR gR gC) (F_read : FnR P w K mg base CX0 8 gR (spRead Z.aR)) : FnOk P w K mg base CX0 9 f fd ["_law_width", "_law_rules_here"] (spList Z.aR) := by
  refine F.ok sc_law_list (fun vs H Q E ⟨G, u, rs, n, e, _⟩ => by rw [e]; rfl) (fun cdv A outer s H vs Q E hr h => ?_)
  obtain ⟨G, u, rs, n, rfl, eG, hu, hgood, hn1, hn6, k⟩ := h
  have nd := sc_law_list.nd
  have hrl := hgood.1
  have v6 : ∀ r ∈ rs, r.2.1 < 6 ∧ r.2.2 < 6 := fun r hr => valid6 (hgood.2.1 r hr) hn6
  refine ⟨_, (pss_one (ps_ret (ClX.pe_cmeth (pl := _) (pe_glob (v := .ref Z.aR) rfl U.k_Rules rfl) U.rdR U.mRead F_read (hr.mono (by decide)) pass0 (pa_cons (pv 0) (pa_cons (pe_join pe_str (pe_lc (own := [("_law_kind", 2), ("_law_a", 3), ("_law_b", 4)]) (by rfl) nd (piListK K (pv 1)) (blkOk_by (own := [("_law_kind", 2), ("_law_a", 3), ("_law_b", 4)]) (N := ["_law_width", "_law_rules_here", "_law_kind", "_law_a", "_law_b"]) (sc := (defScope s_law_list)) (by decide +kernel)) (fun _ _ _ _ _ => (pgTupK K (n := 3) (pgs_cons (pgN 2 nd) (pgs_cons (pgN 3 nd) (pgs_cons (pgN 4 nd) pgs_nil))))) (fun _ _ _ _ _ => pts_nil) (fun _ _ _ _ _ => (pe_op op_add_str (pe_op op_add_str (pe_op op_add_str (pe_op op_add_str (pe_op op_add_str (pe_callTy call_str_int (by rfl) T.b_str (by decide +kernel) (pa_cons (pv 3) pa_nil)) pe_str) (pv 2)) pe_str) (pe_callTy call_str_int (by rfl) T.b_str (by decide +kernel) (pa_cons (pv 4) pa_nil))) pe_str)))) pa_nil))))), ?_⟩
  show tRet _ _ [some (.int (n : Int)), some u, none, none, none] H
  have e32 : (" " : Str) = S [32] := by decide +kernel
  have e10 : ("\n" : Str) = S [10] := by decide +kernel
  have sp : ∀ {σ G}, EvD (tC (.str " ")) σ G (.str (S [32])) := fun {σ G} => e32 ▸ d_str
  have nl : ∀ {σ G}, EvD (tC (.str "\n")) σ G (.str (S [10])) := fun {σ G} => e10 ▸ d_str
  have hlc := m_lcL (K := K) (vs := [2, 3, 4]) (enc := RU) (xs := rs) (fun _ => true) (fun r => PyData.str (S (lineL r ++ [10]))) (d_var (σ := [some (.int (n : Int)), some u, none, none, none]) (i := 1) rfl hu) (by omega)
    (tt := tYes) (g := gTup K 3 (gCons (gName 2) (gCons (gName 3) (gCons (gName 4) gNil))))
    (te := tOp (fun x y H Q => ∃ i j, x = V.str i ∧ y = V.str j ∧ i.length + j.length ≤ sizeLine ∧ Q (V.str (i ++ j)) H) (tOp (fun x y H Q => ∃ i j, x = V.str i ∧ y = V.str j ∧ i.length + j.length ≤ sizeLine ∧ Q (V.str (i ++ j)) H) (tOp (fun x y H Q => ∃ i j, x = V.str i ∧ y = V.str j ∧ i.length + j.length ≤ sizeLine ∧ Q (V.str (i ++ j)) H)
      (tOp (fun x y H Q => ∃ i j, x = V.str i ∧ y = V.str j ∧ i.length + j.length ≤ sizeLine ∧ Q (V.str (i ++ j)) H) (tOp (fun x y H Q => ∃ i j, x = V.str i ∧ y = V.str j ∧ i.length + j.length ≤ sizeLine ∧ Q (V.str (i ++ j)) H) (tCB (fun xs H Q => ∃ i, xs = [V.int i] ∧ i.natAbs.log2 < 1920 ∧ Q (V.str (toString i)) H) (tCons (tVar 3) tNil)) (tC (.str " "))) (tVar 2)) (tC (.str " ")))
      (tCB (fun xs H Q => ∃ i, xs = [V.int i] ∧ i.natAbs.log2 < 1920 ∧ Q (V.str (toString i)) H) (tCons (tVar 4) tNil))) (tC (.str "\n")))
    (fun x u G1 H1 hx e1 e2 hu Q q => g_tup3 hu e2 fun u1 u2 u3 k1 k2 k3 => q _ rfl t_yes fun _ => by
      have hk := kdL_len x.1
      have z := d_catS (d_catS (d_catS (d_catS (d_catS (d_strD (v6 x hx).1 (d_var (σ := [some (.int (n : Int)), some u, some u1, some u2, some u3]) (i := 3) rfl k2)) sp) (d_var (i := 2) rfl (kd_S x.1 ▸ k1)) (by simp; omega)) sp (by simp; omega)) (d_strD (v6 x hx).2 (d_var (i := 4) rfl k3)) (by simp; omega)) nl (by simp; omega)
      refine z.is (congrArg (fun l => PyData.str (S l)) ?_)
      unfold lineL
      simp)
  rw [lc_all] at hlc
  have ej : rs.map (fun r => PyData.str (S (lineL r ++ [10]))) = (rs.map fun r => S (lineL r ++ [10])).map PyData.str := by rw [List.map_map]; rfl
  rw [ej] at hlc
  have hj := d_m1 (te := tC (.str "")) (d_str (x := "")) hlc.toD (m_join (K := K) (by
    have := sum_lines rs
    have e0 : (("" : Str)).length = 0 := by decide +kernel
    rw [e0]
    omega))
  rw [join_lines] at hj
  refine ⟨rfl, ?_⟩
  refine (a_cons (d_var (i := 0) rfl (.int (n : Int))) (a_cons hj a_nil)) G H (Ex.refl G) eG _ fun vs G2 H2 g hvs => ?_
  obtain ⟨w1, r, rfl, hw1, hvs⟩ := hvs.inv
  obtain ⟨w2, r, rfl, hw2, hvs⟩ := hvs.inv
  obtain rfl := hvs.inv0
  obtain rfl := hw1.eqI
  obtain rfl := hw2.eqS
  exact ⟨G2, rs, n, rfl, g.gh, hgood, hn1, hn6, fun v G3 H3 g3 ro => k v G3 H3 (g.trans g3) ro⟩
/-! ### downs and arrows of the law -/
def R_ldowns : List PyData → (PyData → Prop) → Prop := fun ds S => ∃ (rs : List Ru), ds = [.list (rs.map RU)] ∧ GoodRs rs ∧ S = fun d => d = .list ((downsM rs).map P2)
theorem sc_law_downs : FnScope ["_law_rules_here", "_law_kind", "_law_a", "_law_b"] ["_law_rules_here"] (defScope s_law_downs) := ⟨rfl, rfl, rfl, by decide +kernel, rfl, by decide +kernel, by decide +kernel⟩
theorem ok_law_downs {f : Addr} {fd : FuncData} (F : Fun K "_law_downs" "_law_downs" s_law_downs f fd) (T : Txt Z K mg) : FnOk P w K mg base CX0 1 f fd ["_law_rules_here"] (spR R_ldowns) := by
  refine F.ok sc_law_downs (fun vs H Q E h => spR_len (n := 1) (fun ds S ⟨rs, e, _⟩ => by rw [e]; rfl) h) (fun cdv A outer s H vs Q E hr h => ?_)
  obtain ⟨G, ds, S, ⟨rs, rfl, gr, rfl⟩, eG, hd, k⟩ := h
  obtain ⟨v1, r, rfl, h1, hd⟩ := hd.inv
  obtain rfl := hd.inv0
  have nd := sc_law_downs.nd
  refine ⟨_, (pss_one (ps_ret (pe_lc (own := [("_law_kind", 1), ("_law_a", 2), ("_law_b", 3)]) (by rfl) nd (piListK K (pv 0)) (blkOk_by (own := [("_law_kind", 1), ("_law_a", 2), ("_law_b", 3)]) (N := ["_law_rules_here", "_law_kind", "_law_a", "_law_b"]) (sc := (defScope s_law_downs)) (by decide +kernel)) (fun _ _ _ _ _ => (pgTupK K (n := 3) (pgs_cons (pgN 1 nd) (pgs_cons (pgN 2 nd) (pgs_cons (pgN 3 nd) pgs_nil))))) (fun _ _ _ _ _ => pts_nil) (fun _ _ _ _ _ => (pe_ifExp (pt_cmpR (eqDK K (h64 hr)) (pv 1) pe_str (nomark _)) (pe_tup (pa_cons (pv 2) (pa_cons (pv 3) pa_nil))) (pe_tup (pa_cons (pv 3) (pa_cons (pv 2) pa_nil)))))))), ?_⟩
  show tRet _ _ [some v1, none, none, none] H
  refine s_ret (d := .list ((downsM rs).map P2)) ?_ eG fun v G2 H2 g hv => k v _ G2 H2 rfl g hv
  have z := m_lcL (K := K) (vs := [1, 2, 3]) (enc := RU) (xs := rs) (fun _ => true) (fun r => P2 (downM r)) (d_var (σ := [some v1, none, none, none]) (i := 0) rfl h1) (by have := gr.1; omega)
    (tt := tYes) (g := gTup K 3 (gCons (gName 1) (gCons (gName 2) (gCons (gName 3) gNil)))) (te := tIf (tTest (tOp (rEqD K) (tVar 1) (tC (.str "settles")))) (tTup (tCons (tVar 2) (tCons (tVar 3) tNil))) (tTup (tCons (tVar 3) (tCons (tVar 2) tNil))))
    (fun x u G1 H1 hx e1 e2 hu Q q => g_tup3 hu e2 fun u1 u2 u3 k1 k2 k3 => q _ rfl t_yes fun _ => by
      refine (d_if (b_test (d_op (d_var rfl k1) d_str (r_eq (shaped_kd _) (shaped_kd true)))) (fun _ => d_tup (a_cons (d_var rfl k2) (a_cons (d_var rfl k3) a_nil))) fun _ => d_tup (a_cons (d_var rfl k3) (a_cons (d_var rfl k2) a_nil))).is ?_
      obtain ⟨k, a, b⟩ := x
      cases k
      · exact if_neg (by rw [eqv_str]; exact (by decide +kernel : ¬ decide (kd false = kd true) = true))
      · exact if_pos (by rw [eqv_str]; exact (by decide +kernel : decide (kd true = kd true) = true)))
  have e : (rs.filter fun _ => true).map (fun r => P2 (downM r)) = (downsM rs).map P2 := by
    unfold downsM
    rw [lc_all, List.map_map]; rfl
  rw [e] at z
  exact z.toD
/-- the matrix of reaching -/
noncomputable def MX (n : Nat) (ps : List (Nat × Nat)) : PyData := .list ((List.range n).map fun a => PyData.list ((List.range n).map fun b => PyData.bool (reachB ps a b)))
theorem mx_row {n a : Nat} (ps : List (Nat × Nat)) (h : a < n) : atI ((List.range n).map fun a => PyData.list ((List.range n).map fun b => PyData.bool (reachB ps a b))) (a : Int) = some (PyData.list ((List.range n).map fun b => PyData.bool (reachB ps a b))) :=
  atI_at (by rw [List.getElem?_map, List.getElem?_range h]; rfl)
theorem mx_it {n a b : Nat} (ps : List (Nat × Nat)) (h : b < n) : atI ((List.range n).map fun b => PyData.bool (reachB ps a b)) (b : Int) = some (PyData.bool (reachB ps a b)) :=
  atI_at (by rw [List.getElem?_map, List.getElem?_range h]; rfl)
theorem d_mx {σ : VSt} {G : Hp} {t ta tb : TE} {n a b : Nat} {ps : List (Nat × Nat)} (h : EvD t σ G (MX n ps)) (ha : EvD ta σ G (I1 a)) (hb : EvD tb σ G (I1 b)) (h1 : a < n) (h2 : b < n) : EvD (tOp (rIx K) (tOp (rIx K) t ta) tb) σ G (.bool (reachB ps a b)) :=
  d_op (d_op h ha (r_ixL (mx_row ps h1))) hb (r_ixL (mx_it ps h2))
def R_reach : List PyData → (PyData → Prop) → Prop := fun ds S => ∃ (n : Nat) (ps : List (Nat × Nat)), ds = [I1 n, .list (ps.map P2)] ∧ n ≤ 6 ∧ ps.length ≤ 1000 ∧ (∀ p ∈ ps, p.1 < n ∧ p.2 < n) ∧ S = fun d => d = MX n ps
def R_larrows : List PyData → (PyData → Prop) → Prop := fun ds S => ∃ (n : Nat) (rs : List Ru) (k : Bool), ds = [I1 n, .list (rs.map RU), .str (kd k)] ∧ n ≤ 6 ∧ GoodL n rs ∧ S = fun d => d = .list ((arrowsL rs k).map P2)
theorem downs_lt {n : Nat} {rs : List Ru} (h : GoodL n rs) : ∀ p ∈ downsM rs, p.1 < n ∧ p.2 < n := fun p hp => by
  obtain ⟨r, hr, rfl⟩ := List.mem_map.mp hp
  have := h.2.1 r hr
  unfold downM
  split
  · exact ⟨this.1, this.2.1⟩
  · exact ⟨this.2.1, this.1⟩
theorem sc_law_arrows : FnScope ["_law_width", "_law_rules_here", "_law_kind", "_law_there", "_law_found", "_law_other", "_law_a", "_law_b"] ["_law_width", "_law_rules_here", "_law_kind"] (defScope s_law_arrows) := ⟨rfl, rfl, rfl, by decide +kernel, rfl, by decide +kernel, by decide +kernel⟩
theorem ok_law_arrows {f : Addr} {fd : FuncData} (F : Fun K "_law_arrows" "_law_arrows" s_law_arrows f fd) (T : Txt Z K mg) (F_law_reach : Fn1 P w K mg base "_law_reach" 1 (spR R_reach)) (F_law_downs : Fn1 P w K mg base "_law_downs" 1 (spR R_ldowns)) : FnOk P w K mg base CX0 2 f fd ["_law_width", "_law_rules_here", "_law_kind"] (spR R_larrows) := by
  refine F.ok sc_law_arrows (fun vs H Q E h => spR_len (n := 3) (fun ds S ⟨_, _, _, e, _⟩ => by rw [e]; rfl) h) (fun cdv A outer s H vs Q E hr h => ?_)
  obtain ⟨G, ds, S, ⟨n, rs, kk, rfl, hn6, hgood, rfl⟩, eG, hd, k⟩ := h
  obtain ⟨v1, r, rfl, h1, hd⟩ := hd.inv
  obtain ⟨v2, r, rfl, h2, hd⟩ := hd.inv
  obtain ⟨v3, r, rfl, h3, hd⟩ := hd.inv
  obtain rfl := hd.inv0
  have nd := sc_law_arrows.nd
  have hrl := hgood.1
  have hfl := firstL_len rs kk
  have hfm : ∀ p ∈ firstL rs kk, p.1 < n ∧ p.2 < n := fun p hp => ⟨(hgood.2.1 _ (mem_firstL.mp hp)).1, (hgood.2.1 _ (mem_firstL.mp hp)).2.1⟩
  refine ⟨_, (pss_cons (ps_set (i := 3) nd rfl (by first | exact Or.inl rfl | exact Or.inr rfl) (pe_fn F_law_reach (hr.mono (by decide)) rfl (pa_cons (pv 0) (pa_cons (pe_fn F_law_downs (hr.mono (by decide)) rfl (pa_cons (pv 1) pa_nil)) pa_nil))))
    (pss_cons (ps_setLc (i := 4) (own := [("_law_other", 5), ("_law_a", 6), ("_law_b", 7)]) rfl nd rfl rfl (sw_true rfl rfl rfl (by decide +kernel)) (piListK K (pv 1)) (blkOk_by (own := [("_law_other", 5), ("_law_a", 6), ("_law_b", 7)]) (N := ["_law_width", "_law_rules_here", "_law_kind", "_law_there", "_law_found", "_law_other", "_law_a", "_law_b"]) (sc := (defScope s_law_arrows)) (by decide +kernel)) (fun _ _ _ _ _ => (pgTupK K (n := 3) (pgs_cons (pgN 5 nd) (pgs_cons (pgN 6 nd) (pgs_cons (pgN 7 nd) pgs_nil))))) (fun _ _ _ _ _ => pts_one (pt_cmpR (eqDK K (h64 hr)) (pv 5) (pv 2) (nomark _))) (fun _ _ _ _ _ => (pe_tup (pa_cons (pv 6) (pa_cons (pv 7) pa_nil)))))
    (pss_one (ps_ret (pe_op op_cat (pv 4) (pe_lc (own := [("_law_a", 6), ("_law_b", 7)]) (by rfl) nd (piListK K (pv 4)) (blkOk_by (own := [("_law_a", 6), ("_law_b", 7)]) (N := ["_law_width", "_law_rules_here", "_law_kind", "_law_there", "_law_found", "_law_other", "_law_a", "_law_b"]) (sc := (defScope s_law_arrows)) (by decide +kernel)) (fun _ _ _ _ _ => (pgTupK K (n := 2) (pgs_cons (pgN 6 nd) (pgs_cons (pgN 7 nd) pgs_nil)))) (fun _ _ _ _ _ => pts_one (PW.pt (pw_and (pt_val (pe_ix (ix_seqK K) (pe_ix (ix_seqK K) (pv 3) (pv 6) (fun _ _ => rfl)) (pv 7) (fun _ _ => rfl))) (pw_and1 (pt_val (pe_ix (ix_seqK K) (pe_ix (ix_seqK K) (pv 3) (pv 7) (fun _ _ => rfl)) (pv 6) (fun _ _ => rfl))))))) (fun _ _ _ _ _ => (pe_tup (pa_cons (pv 7) (pa_cons (pv 6) pa_nil)))))))))), ?_⟩
  show tSeq _ _ _ [some v1, some v2, some v3, none, none, none, none, none] H
  refine q_asg (d_call (a_cons (d_var rfl h1) (a_cons (d_call (a_cons (d_var rfl h2) a_nil) ⟨rs, rfl, good_of hgood hn6, rfl⟩) a_nil)) ⟨n, downsM rs, rfl, hn6, by unfold downsM; rw [List.length_map]; omega, downs_lt hgood, rfl⟩) eG fun v4 G1 H1 g1 hv4 => ?_
  show tSeq _ _ _ [some v1, some v2, some v3, some v4, none, none, none, none] H1
  have z := m_lcL (K := K) (vs := [5, 6, 7]) (enc := RU) (xs := rs) (fun r => decide (r.1 = kk)) (fun r => P2 (r.2.1, r.2.2)) (d_var (σ := [some v1, some v2, some v3, some v4, none, none, none, none]) (i := 1) rfl (h2.up g1.g)) (by omega)
    (tt := tTest (tOp (rEqD K) (tVar 5) (tVar 2))) (g := gTup K 3 (gCons (gName 5) (gCons (gName 6) (gCons (gName 7) gNil)))) (te := tTup (tCons (tVar 6) (tCons (tVar 7) tNil)))
    (fun x u G1 H1 hx e1 e2 hu Q q => g_tup3 hu e2 fun u1 u2 u3 k1 k2 k3 => q _ rfl ((b_test (d_op (d_var rfl k1) (d_var rfl ((h3.up g1.g).up e1)) (r_eq (shaped_kd _) (shaped_kd _)))).is (by
        rw [eqv_str]
        by_cases h : x.1 = kk
        · rw [decide_eq_true h, h, decide_eq_true rfl]
        · rw [decide_eq_false h, decide_eq_false fun z => h (kd_inj z)])) fun _ => d_tup (a_cons (d_var rfl k2) (a_cons (d_var rfl k3) a_nil)))
  have e : (rs.filter fun r => decide (r.1 = kk)).map (fun r => P2 (r.2.1, r.2.2)) = (firstL rs kk).map P2 := by
    unfold firstL
    rw [List.map_map]; rfl
  rw [e] at z
  refine q_asg z.toD g1.gh fun v5 G2 H2 g2 hv5 => ?_
  show tRet _ _ [some v1, some v2, some v3, some v4, some v5, none, none, none] H2
  have z2 := m_lcL (K := K) (vs := [6, 7]) (enc := P2) (xs := firstL rs kk) (backL rs) (fun p => P2 (p.2, p.1)) (d_var (σ := [some v1, some v2, some v3, some v4, some v5, none, none, none]) (i := 4) rfl hv5) (by omega)
    (tt := tAnd (tTest (tOp (rIx K) (tOp (rIx K) (tVar 3) (tVar 6)) (tVar 7))) (tTest (tOp (rIx K) (tOp (rIx K) (tVar 3) (tVar 7)) (tVar 6)))) (g := gTup K 2 (gCons (gName 6) (gCons (gName 7) gNil))) (te := tTup (tCons (tVar 7) (tCons (tVar 6) tNil)))
    (fun x u G1 H1 hx e1 e2 hu Q q => g_tup2 hu e2 fun u1 u2 k1 k2 => q _ rfl (b_and (b_test (d_mx (d_var rfl ((hv4.up g2.g).up e1)) (d_var rfl k1) (d_var rfl k2) (hfm x hx).1 (hfm x hx).2)) fun _ => b_test (d_mx (d_var rfl ((hv4.up g2.g).up e1)) (d_var rfl k2) (d_var rfl k1) (hfm x hx).2 (hfm x hx).1))
      fun _ => d_tup (a_cons (d_var rfl k2) (a_cons (d_var rfl k1) a_nil)))
  have e2 : ((firstL rs kk).filter (backL rs)).map (fun p => P2 (p.2, p.1)) = (((firstL rs kk).filter (backL rs)).map fun p => (p.2, p.1)).map P2 := by rw [List.map_map]; rfl
  rw [e2] at z2
  have hbl := List.length_filter_le (backL rs) (firstL rs kk)
  refine s_ret (d := .list ((arrowsL rs kk).map P2)) ((m_catL (d_var rfl hv5) z2.toD (by rw [List.length_map, List.length_map, List.length_map]; omega)).toD.is ?_) g2.gh fun v G3 H3 g3 hv => k v _ G3 H3 rfl ((g1.trans g2).trans g3) hv
  unfold arrowsL
  rw [List.map_append]
/-! ### nearly all rules -/
def R_nearly : List PyData → (PyData → Prop) → Prop := fun ds S => ds = [] ∧ S = fun d => ∃ rs : List Ru, GoodL 6 rs ∧ d = .list (rs.map RU)
theorem cut_from {α : Type} (f : α → PyData) (xs : List α) (i : Nat) : cutD (xs.map f) (some (i : Int)) none = (xs.drop i).map f := by
  unfold cutD
  rw [HT.sIx_none, List.length_map]
  have e : HT.sIx xs.length 0 (some (i : Int)) = min i xs.length := by
    show (if (i : Int) < 0 then ((i : Int) + (xs.length : Int)).toNat else min ((i : Int)).toNat xs.length) = _
    rw [if_neg (by omega)]
    rfl
  rw [e, List.take_of_length_le (by rw [List.length_drop, List.length_map]; exact Nat.le_refl _), ← List.map_drop]
  congr 1
  by_cases h : i ≤ xs.length
  · rw [Nat.min_eq_left h]
  · rw [Nat.min_eq_right (by omega), List.drop_of_length_le (Nat.le_refl _), List.drop_of_length_le (by omega)]
theorem cut_to {α : Type} (f : α → PyData) (xs : List α) (i : Nat) : cutD (xs.map f) none (some (i : Int)) = (xs.take i).map f := by
  unfold cutD
  rw [HT.sIx_none, List.drop_zero, Nat.sub_zero, List.length_map]
  have e : HT.sIx xs.length xs.length (some (i : Int)) = min i xs.length := by
    show (if (i : Int) < 0 then ((i : Int) + (xs.length : Int)).toNat else min ((i : Int)).toNat xs.length) = _
    rw [if_neg (by omega)]
    rfl
  rw [e, ← List.map_take]
  congr 1
  by_cases h : i ≤ xs.length
  · rw [Nat.min_eq_left h]
  · rw [Nat.min_eq_right (by omega), List.take_of_length_le (Nat.le_refl _), List.take_of_length_le (by omega)]
theorem rot_nodup {α : Type} {xs : List α} (h : xs.Nodup) (i : Nat) : (xs.drop i ++ xs.take i).Nodup := by
  have p : (xs.drop i ++ xs.take i).Perm xs := List.perm_append_comm.trans (by rw [List.take_append_drop])
  exact p.nodup_iff.mpr h
theorem rot_mem {α : Type} {xs : List α} {i : Nat} {x : α} (h : x ∈ xs.drop i ++ xs.take i) : x ∈ xs := (List.mem_append.mp h).elim (fun z => List.mem_of_mem_drop z) fun z => List.mem_of_mem_take z
theorem sc_law_nearly : FnScope ["_law_source_here", "_law_every", "_law_by"] ["_law_source_here"] (defScope s_law_nearly) := ⟨rfl, rfl, rfl, by decide +kernel, rfl, by decide +kernel, by decide +kernel⟩
theorem ok_law_nearly {f : Addr} {fd : FuncData} (F : Fun K "_law_nearly" "_law_nearly" s_law_nearly f fd) (T : Txt Z K mg) (F_law_all : Fn1 P w K mg base "_law_all" 1 (spR R_all)) (F_law_draw : Fn1 P w K mg base "_law_draw" 1 (spN R_draw)) : FnOk P w K mg base CX0 2 f fd ["_law_source_here"] (spN R_nearly) := by
  refine F.ok sc_law_nearly (fun vs H Q E h => spN_len (n := 0) (fun ds S ⟨e, _⟩ => by rw [e]; rfl) h) (fun cdv A outer s H vs Q E hr h => ?_)
  obtain ⟨G, so, us, ds, S, rfl, ⟨rfl, rfl⟩, eG, ms, hd, k⟩ := h
  obtain rfl := hd.inv0
  have nd := sc_law_nearly.nd
  refine ⟨_, (pss_cons (ps_par (i := 1) (j := 2) rfl nd rfl rfl (by decide) rfl rfl (pa_cons (pe_fn F_law_all (hr.mono (by decide)) rfl (pa_cons pe_int pa_nil)) (pa_cons (pe_fn F_law_draw (hr.mono (by decide)) rfl (pa_cons (pv 0) (pa_cons pe_int pa_nil))) pa_nil)) (by rfl))
    (pss_one (ps_ret (pe_slice (slLK K) (pe_op op_cat (pe_slice (slLK K) (pv 1) (po_some (pv 2)) po_none) (pe_slice (slLK K) (pv 1) po_none (po_some (pv 2)))) (po_some (pe_fn F_law_draw (hr.mono (by decide)) rfl (pa_cons (pv 0) (pa_cons pe_int pa_nil)))) po_none)))), ?_⟩
  show tSeq _ _ _ [some (.ref so), none, none] H
  refine q_parNN (s := so) (n_d (d_call (a_cons d_int a_nil) ⟨6, rfl, Nat.le_refl _, rfl⟩)) (n_call (v_var rfl) (a_cons d_int a_nil) ⟨60, rfl, by decide, by decide, rfl⟩) eG ms fun v1 d1 v2 d2 G1 H1 hd1 hd2 g1 ms1 hv1 hv2 => ?_
  subst hd1
  obtain ⟨m, hm, rfl⟩ := hd2
  obtain rfl := hv2.eqI
  show tRet _ _ [some (.ref so), some v1, some (.int (m : Int))] H1
  have ha := (m_slL (K := K) (te := tVar 1) (tl := tPart (tVar 2)) (th := tNoPart) (σ := [some (.ref so), some v1, some (.int (m : Int))]) (G := G1) (d_var rfl hv1) (o_some (d_var rfl (.int _))) o_none).toD
  have hb := (m_slL (K := K) (te := tVar 1) (tl := tNoPart) (th := tPart (tVar 2)) (σ := [some (.ref so), some v1, some (.int (m : Int))]) (G := G1) (d_var rfl hv1) o_none (o_some (d_var rfl (.int _)))).toD
  rw [cut_from] at ha
  rw [cut_to] at hb
  have hl6 := allR6_len
  have hc := (m_catL ha hb (by rw [List.length_map, List.length_map, List.length_drop, List.length_take]; omega)).toD
  rw [← List.map_append] at hc
  refine s_retN (s := so) (EvNM.toN (nm_sl (n_d hc) (no_some (n_weak (n_call (v_var rfl) (a_cons d_int a_nil) ⟨3, rfl, by decide, by decide, rfl⟩) fun d ⟨i, _, e⟩ => ⟨_, e⟩)) no_none)) g1.gh ms1 fun v d G2 H2 hd2 g2 ms2 hv => ?_
  obtain ⟨es, ⟨lo, hi, rfl⟩, rfl⟩ := hd2
  obtain ⟨ys, ey, hy⟩ := cut_map RU ((allR 6).drop m ++ (allR 6).take m) lo hi
  rw [ey] at hv
  refine k v _ G2 H2 ⟨ys, ⟨?_, fun r hr => ?_, (rot_nodup (allR6_nodup 6 (Nat.le_refl _)) m).sublist hy⟩, rfl⟩ (g1.trans g2) ms2 hv
  · have := hy.length_le
    rw [List.length_append, List.length_drop, List.length_take] at this
    omega
  · exact mem_allR.mp (rot_mem (hy.subset hr))
end
end CP
set_option Elab.async false
set_option linter.all false
set_option maxRecDepth 100000
set_option maxHeartbeats 4000000
namespace CL
open PySem L2 CM
theorem DDs.ofMap {α : Type} {G : Hp} {fv : α → V} {fd : α → PyData} : ∀ (l : List α), (∀ a ∈ l, DD G (fv a) (fd a)) → DDs G (l.map fv) (l.map fd)
  | [], _ => .nil
  | a :: l, h => .cons (h a List.mem_cons_self) (DDs.ofMap l fun x hx => h x (List.mem_cons_of_mem _ hx))
theorem map_range_succ {α : Type} (f g : Nat → α) (i : Nat) (x : α) (h : ∀ a, a < i → g a = f a) (hx : g i = x) : (List.range (i + 1)).map g = (List.range i).map f ++ [x] := by
  rw [List.range_succ, List.map_append, List.map_cons, List.map_nil, hx]
  congr 1
  exact List.map_congr_left fun a ha => h a (List.mem_range.mp ha)
section
variable {σ : VSt} {G H : Hp} {te : TE} {ta : TA} {K : PySem.W.Frag} {g : TG} {vs : List Nat}
/-- [row for x in range(n)], the rows new lists that may change -/
theorem rows_lcR {n : Nat} (f : Nat → List PyData) (h : EvA ta σ G [.int (n : Int)]) (hl : n ≤ 50000)
    (hg : ∀ (x : Nat) (G1 H1 : Hp), x < n → Ex G G1 → Ex G1 H1 → ∀ Q : VSt → Hp → Prop, (∀ σ2, wipe σ2 vs = wipe σ vs → EvM te σ2 G1 (f x) → Q σ2 H1) → g (.int (x : Int)) (wipe σ vs) H1 Q) (e : Ex G H) {Q : VK}
    (q : ∀ (p : Addr) (ρ : Nat → Addr) G2 H2, H p = none → Grow M0 G H G2 H2 → G2 p = none → H2 p = some (.lst ((List.range n).map fun a => V.ref (ρ a))) → (∀ a b, a < n → b < n → ρ a = ρ b → a = b) → (∀ a, a < n → ρ a ≠ p) → (∀ a, a < n → H (ρ a) = none ∧ ML G2 H2 (ρ a) (f a)) → Q (.ref p) H2) :
    tLc (iRng1 ta) g tYes te vs σ H Q := h G H (Ex.refl G) e _ fun vs' G2 H2 g2 hv => by
  obtain ⟨v, r, rfl, hv1, hr⟩ := hv.inv
  obtain rfl := hr.inv0
  obtain rfl := hv1.eqI
  refine ⟨(n : Int), rfl, by omega, by omega, fun D hD => ?_⟩
  have e0 : ((n : Int)).toNat = n := by omega
  rw [e0]
  refine lc_range (lo := 0) (n := n) (fun i H' => ∃ (G' : Hp) (ρ : Nat → Addr), Grow M0 G2 H2 G' H' ∧ G' D = none ∧ H' D = some (.lst ((List.range i).map fun a => V.ref (ρ a))) ∧ (∀ a b, a < i → b < i → ρ a = ρ b → a = b) ∧ (∀ a, a < i → ρ a ≠ D) ∧ ∀ a, a < i → H2 (ρ a) = none ∧ ML G' H' (ρ a) (f a))
    ⟨G2, fun _ => D, Grow.mnew g2.gh hD, g2.gh.back hD, upd_same, fun a b ha => absurd ha (Nat.not_lt_zero a), fun a ha => absurd ha (Nat.not_lt_zero a), fun a ha => absurd ha (Nat.not_lt_zero a)⟩ (fun i H' hi ⟨G', ρ, gr, hg0, hd, inj, neD, rows⟩ => ?_) (fun H' ⟨G', ρ, gr, hg0, hd, inj, neD, rows⟩ => ?_)
  · have ez : (0 : Int) + (i : Int) = (i : Int) := Int.zero_add _
    rw [ez]
    refine hg i G' H' hi (g2.g.trans gr.g) gr.gh _ fun σ2 hw he => ⟨hw, ?_⟩
    show te σ2 H' _
    refine he G' H' (Ex.refl _) gr.gh _ fun p G4 H4 hp g4 m4 => ?_
    have hDt : H' D ≠ none := by rw [hd]; exact fun z => nomatch z
    have hD4 : H4 D = _ := g4.ex _ _ hd
    have g4D : G4 D = none := g4.new D hDt hg0
    have hpD : p ≠ D := fun z => hDt (z ▸ hp)
    have hpr : ∀ a, a < i → ρ a ≠ p := fun a ha z => (rows a ha).2.there (z ▸ hp)
    refine ⟨_, hD4, Evl.sz_lt (by rw [List.length_map, List.length_range]; omega), G4, fun a => if a = i then p else ρ a, ?_, g4D, ?_, fun a b ha hb hab => ?_, fun a ha => ?_, fun a ha => ?_⟩
    · exact (gr.trans g4).set (.inl hD) g4D (by rw [hD4]; exact fun z => nomatch z)
    · rw [upd_same, map_range_succ (fun a => V.ref (ρ a)) (fun a => V.ref (if a = i then p else ρ a)) i (.ref p) (fun a ha => by rw [if_neg (by omega)]) (by rw [if_pos rfl])]
    · have hab : (if a = i then p else ρ a) = (if b = i then p else ρ b) := hab
      by_cases h1 : a = i <;> by_cases h2 : b = i
      · omega
      · rw [if_pos h1, if_neg h2] at hab
        exact absurd hab.symm (hpr b (by omega))
      · rw [if_neg h1, if_pos h2] at hab
        exact absurd hab (hpr a (by omega))
      · rw [if_neg h1, if_neg h2] at hab
        exact inj a b (by omega) (by omega) hab
    · by_cases h1 : a = i
      · show (if a = i then p else ρ a) ≠ D
        rw [if_pos h1]; exact hpD
      · show (if a = i then p else ρ a) ≠ D
        rw [if_neg h1]; exact neD a (by omega)
    · show H2 (if a = i then p else ρ a) = none ∧ ML G4 _ (if a = i then p else ρ a) (f a)
      by_cases h1 : a = i
      · rw [if_pos h1, h1]
        obtain ⟨m1, xs, m2, m3⟩ := m4
        exact ⟨gr.there p hp, m1, xs, by rw [upd_ne hpD]; exact m2, m3⟩
      · rw [if_neg h1]
        obtain ⟨r1, r2⟩ := rows a (by omega)
        obtain ⟨m1, xs, m2, m3⟩ := r2.grow0 g4
        exact ⟨r1, m1, xs, by rw [upd_ne (neD a (by omega))]; exact m2, m3⟩
  · exact q D ρ _ _ (g2.there _ hD) (g2.trans gr) hg0 hd inj neD fun a ha => ⟨g2.there _ (rows a ha).1, (rows a ha).2⟩
theorem q_rows {i : Nat} {n : Nat} {D : Ends} {tz : TS} (f : Nat → List PyData) (h : EvA ta σ G [.int (n : Int)]) (hl : n ≤ 50000)
    (hg : ∀ (x : Nat) (G1 H1 : Hp), x < n → Ex G G1 → Ex G1 H1 → ∀ Q : VSt → Hp → Prop, (∀ σ2, wipe σ2 vs = wipe σ vs → EvM te σ2 G1 (f x) → Q σ2 H1) → g (.int (x : Int)) (wipe σ vs) H1 Q) (e : Ex G H)
    (q : ∀ (p : Addr) (ρ : Nat → Addr) G2 H2, H p = none → Grow M0 G H G2 H2 → G2 p = none → H2 p = some (.lst ((List.range n).map fun a => V.ref (ρ a))) → (∀ a b, a < n → b < n → ρ a = ρ b → a = b) → (∀ a, a < n → ρ a ≠ p) → (∀ a, a < n → H (ρ a) = none ∧ ML G2 H2 (ρ a) (f a)) → tz D (σ.set i (some (.ref p))) H2) :
    tSeq (tAsg (tLc (iRng1 ta) g tYes te vs) (gName i)) tz D σ H := rows_lcR (Q := fun v H2 => tz D (σ.set i (some v)) H2) f h hl hg e q
/-- a square of truths, in rows that may change -/
structure Mat (G H : Hp) (f : Addr) (n : Nat) (ρ : Nat → Addr) (M : Nat → Nat → Bool) : Prop where
  fg : G f = none
  fh : H f = some (.lst ((List.range n).map fun a => V.ref (ρ a)))
  inj : ∀ a b, a < n → b < n → ρ a = ρ b → a = b
  ne : ∀ a, a < n → ρ a ≠ f
  row : ∀ a, a < n → G (ρ a) = none ∧ H (ρ a) = some (.lst ((List.range n).map fun b => V.bl (M a b)))
theorem Mat.grow {G2 H2 : Hp} {f : Addr} {n : Nat} {ρ : Nat → Addr} {M : Nat → Nat → Bool} (m : Mat G H f n ρ M) (g : Grow M0 G H G2 H2) : Mat G2 H2 f n ρ M :=
  ⟨g.new f (by rw [m.fh]; exact fun z => nomatch z) m.fg, g.ex _ _ m.fh, m.inj, m.ne, fun a ha => ⟨g.new _ (by rw [(m.row a ha).2]; exact fun z => nomatch z) (m.row a ha).1, g.ex _ _ (m.row a ha).2⟩⟩
theorem Mat.get {f : Addr} {n : Nat} {ρ : Nat → Addr} {M : Nat → Nat → Bool} (m : Mat G H f n ρ M) {i j l a b : Nat} (h0 : σ[i]? = some (some (.ref f))) (h1 : σ[j]? = some (some (.int (a : Int)))) (h2 : σ[l]? = some (some (.int (b : Int)))) (ha : a < n) (hb : b < n) {Q : VK} (q : Q (.bl (M a b)) H) :
    tOp (rIx K) (tOp (rIx K) (tVar i) (tVar j)) (tVar l) σ H Q := by
  refine ⟨_, h0, _, h1, .inl ⟨f, _, (a : Int), .ref (ρ a), rfl, rfl, .inl (.inl m.fh), atI_at (by rw [List.getElem?_map, List.getElem?_range ha]; rfl), _, h2, .inl ⟨ρ a, _, (b : Int), .bl (M a b), rfl, rfl, .inl (.inl (m.row a ha).2), atI_at (by rw [List.getElem?_map, List.getElem?_range hb]; rfl), q⟩⟩⟩
theorem Mat.put {f : Addr} {n : Nat} {ρ : Nat → Addr} {M : Nat → Nat → Bool} (m : Mat G H f n ρ M) (e : Ex G H) {i j l a b : Nat} (h0 : σ[i]? = some (some (.ref f))) (h1 : σ[j]? = some (some (.int (a : Int)))) (h2 : σ[l]? = some (some (.int (b : Int)))) (ha : a < n) (hb : b < n) {D : Ends}
    (q : ∀ H2, H2 = upd H (ρ a) (.lst (((List.range n).map fun b => V.bl (M a b)).set b (.bl true))) → Mat G H2 f n ρ (setM M a b) → D.nx σ H2) : tAsg (tC (.bl true)) (gSub (tOp (rIx K) (tVar i) (tVar j)) (tVar l) L2.rSetL) D σ H := by
  refine ⟨_, h0, _, h1, .inl ⟨f, _, (a : Int), .ref (ρ a), rfl, rfl, .inl (.inl m.fh), atI_at (by rw [List.getElem?_map, List.getElem?_range ha]; rfl), _, h2, ρ a, _, (b : Int), b, rfl, rfl, (m.row a ha).2, ?_, ?_⟩⟩
  · rw [List.length_map, List.length_range]
    exact Evl.ixN_nat hb
  · refine q _ rfl ⟨m.fg, by rw [upd_ne (fun z => m.ne a ha z.symm)]; exact m.fh, m.inj, m.ne, fun c hc => ⟨(m.row c hc).1, ?_⟩⟩
    by_cases h : c = a
    · subst h
      rw [upd_same]
      congr 2
      refine List.ext_getElem (by simp) fun k h1 h2 => ?_
      rw [List.getElem_set]
      simp only [List.getElem_map, List.getElem_range]
      unfold setM
      by_cases hk : b = k
      · subst hk; simp
      · rw [if_neg hk, if_neg (fun z => hk z.2.symm)]
    · rw [upd_ne (fun z => h (m.inj c a hc ha z)), (m.row c hc).2]
      congr 2
      refine List.map_congr_left fun k _ => ?_
      unfold setM
      rw [if_neg (fun z => h z.1)]
theorem Mat.fin {G0 H0 : Hp} {f : Addr} {n : Nat} {ρ : Nat → Addr} {M : Nat → Nat → Bool} (m : Mat G H f n ρ M) (g : Grow M0 G0 H0 G H) (hf : H0 f = none) (hr : ∀ a, a < n → H0 (ρ a) = none) :
    ∃ G3, Grow M0 G0 H0 G3 H ∧ DD G3 (.ref f) (.list ((List.range n).map fun a => PyData.list ((List.range n).map fun b => PyData.bool (M a b)))) := by
  have key : ∀ k, k ≤ n → ∃ G3, Grow M0 G0 H0 G3 H ∧ (∀ a, a < k → G3 (ρ a) = some (.lst ((List.range n).map fun b => V.bl (M a b)))) ∧ ∀ q, (∀ a, a < k → q ≠ ρ a) → G q = none → G3 q = none := fun k => by
    induction k with
    | zero => exact fun _ => ⟨G, g, fun a ha => absurd ha (Nat.not_lt_zero a), fun q _ h => h⟩
    | succ k ih =>
      intro hk
      obtain ⟨G3, g3, h1, h2⟩ := ih (by omega)
      have hn : G3 (ρ k) = none := h2 _ (fun a ha z => by have := m.inj k a (by omega) (by omega) z; omega) (m.row k (by omega)).1
      refine ⟨upd G3 (ρ k) (.lst ((List.range n).map fun b => V.bl (M k b))), g3.freeze (hr k (by omega)) hn (m.row k (by omega)).2, fun a ha => ?_, fun q hq hG => ?_⟩
      · by_cases h : a = k
        · subst h; exact upd_same
        · rw [upd_ne (fun z => h (m.inj a k (by omega) (by omega) z))]
          exact h1 a (by omega)
      · rw [upd_ne (hq k (by omega))]
        exact h2 q (fun a ha => hq a (by omega)) hG
  obtain ⟨G3, g3, h1, h2⟩ := key n (Nat.le_refl n)
  have hn : G3 f = none := h2 f (fun a ha z => m.ne a ha z.symm) m.fg
  refine ⟨_, g3.freeze (o := .lst ((List.range n).map fun a => V.ref (ρ a))) hf hn m.fh, .lst upd_same (DDs.ofMap _ fun a ha => ?_)⟩
  have ha := List.mem_range.mp ha
  refine .lst (Ex.frz hn _ _ (h1 a ha)) (DDs.ofMap _ fun b _ => .bl _)
end
end CL
namespace CP
open PySem L2 CL CM
section
variable {P : Program} {w : World} {K : PySem.W.Frag} {mg : Str → Option Value} {base : Heap} {Z : Ads}
theorem sc_law_reach : FnScope ["_law_width", "_law_pairs", "_law_found", "_law_middle", "_law_a", "_law_b"] ["_law_width", "_law_pairs"] (defScope s_law_reach) := ⟨rfl, rfl, rfl, by decide +kernel, rfl, by decide +kernel, by decide +kernel⟩
theorem ok_law_reach {f : Addr} {fd : FuncData} (F : Fun K "_law_reach" "_law_reach" s_law_reach f fd) (T : Txt Z K mg) : FnOk P w K mg base CX0 1 f fd ["_law_width", "_law_pairs"] (spR R_reach) := by
  refine F.ok sc_law_reach (fun vs H Q E h => spR_len (n := 2) (fun ds S ⟨_, _, e, _⟩ => by rw [e]; rfl) h) (fun cdv A outer s H vs Q E hr h => ?_)
  obtain ⟨G, ds, S, ⟨n, ps, rfl, hn6, hpl, hps, rfl⟩, eG, hd, k⟩ := h
  obtain ⟨v1, r, rfl, h1, hd⟩ := hd.inv
  obtain ⟨v2, r, rfl, h2, hd⟩ := hd.inv
  obtain rfl := hd.inv0
  obtain rfl := h1.eqI
  have nd := sc_law_reach.nd
  refine ⟨_, (pss_cons (ps_setLc (i := 2) (own := [("_law_a", 4)]) rfl nd rfl rfl (sw_true rfl rfl rfl (by decide +kernel)) (pi_range1 (by rfl) T.b_range (pa_cons (pv 0) pa_nil)) (blkOk_by (own := [("_law_a", 4)]) (N := ["_law_width", "_law_pairs", "_law_found", "_law_middle", "_law_a", "_law_b"]) (sc := (defScope s_law_reach)) (by decide +kernel)) (fun _ _ _ _ _ => (pgN 4 nd)) (fun _ _ _ _ _ => pts_nil) (fun _ _ _ _ _ => (pe_lc (own := [("_law_b", 5)]) (by rfl) nd (pi_range1 (by rfl) T.b_range (pa_cons (pv 0) pa_nil)) (blkOk_by (own := [("_law_b", 5)]) (N := ["_law_width", "_law_pairs", "_law_found", "_law_middle", "_law_a", "_law_b"]) (sc := (relS (lcScope s_law_reach) (defScope s_law_reach))) (by decide +kernel)) (fun _ _ _ _ _ => (pgN 5 nd)) (fun _ _ _ _ _ => pts_nil) (fun _ _ _ _ _ => (pe_or (pe_cmpR (eqDK K (h64 hr)) (pv 4) (pv 5) (nomark _)) (pe_one (pe_cmpR (inDK K (h65 hr)) (pe_tup (pa_cons (pv 4) (pa_cons (pv 5) pa_nil))) (pv 1) (by rfl))))))))
    (pss_cons (ps_for PassesOwn.never rfl (pi_range1 (by rfl) T.b_range (pa_cons (pv 0) pa_nil)) (pgN 3 nd)
    (pss_one (ps_for PassesOwn.never rfl (pi_range1 (by rfl) T.b_range (pa_cons (pv 0) pa_nil)) (pgN 4 nd)
    (pss_one (ps_for PassesOwn.never rfl (pi_range1 (by rfl) T.b_range (pa_cons (pv 0) pa_nil)) (pgN 5 nd)
    (pss_one (ps_if (PW.pt (pw_and (pt_val (pe_ix (ix_seqK K) (pe_ix (ix_seqK K) (pv 2) (pv 4) (fun _ _ => rfl)) (pv 3) (fun _ _ => rfl))) (pw_and1 (pt_val (pe_ix (ix_seqK K) (pe_ix (ix_seqK K) (pv 2) (pv 3) (fun _ _ => rfl)) (pv 5) (fun _ _ => rfl)))))) (pss_one (ps_asg pe_bl (pg_sub (pe_ix (ix_seqK K) (pv 2) (pv 4) (fun _ _ => rfl)) (pv 5) set_list))) pss_nil)))))))
    (pss_one (ps_ret (pv 2))))), ?_⟩
  show tSeq _ _ _ [some (.int (n : Int)), some v2, none, none, none, none] H
  refine q_rows (n := n) (G := G) (fun a => (List.range n).map fun b => PyData.bool (decide (a = b) || decide ((a, b) ∈ ps))) (a_cons (d_var rfl (.int _)) a_nil) (by omega) (fun x G1 H1 hx e1 e2 Q q => q _ rfl ?_) eG fun pf ρ G1 H1 hpf g1 gf hf inj ne rows => ?_
  · have z := m_lcR (vs := [5]) (g := gName 5) (tt := tYes) (te := tOrV (tOp (rEqD K) (tVar 4) (tVar 5)) (tOp (rInD K) (tTup (tCons (tVar 4) (tCons (tVar 5) tNil))) (tVar 1))) (σ := [some (.int (n : Int)), some v2, none, none, some (.int (x : Int)), none]) (G := G1) (fun _ => true) (fun b => PyData.bool (decide (x = b) || decide ((x, b) ∈ ps)))
      (a_cons (d_var (i := 0) rfl (.int (n : Int))) a_nil) (by omega) (fun y G2 H2 hy e3 e4 Q q => q _ rfl t_yes fun _ => by
        have a1 := d_op (d_var (σ := [some (.int (n : Int)), some v2, none, none, some (.int (x : Int)), some (.int (y : Int))]) (G := G2) (i := 4) rfl (.int (x : Int))) (d_var (i := 5) rfl (.int (y : Int))) (r_eq (K := K) (lay_int _).shaped (lay_int _).shaped)
        have a2 := d_op (d_tup (a_cons (d_var (σ := [some (.int (n : Int)), some v2, none, none, some (.int (x : Int)), some (.int (y : Int))]) (G := G2) (i := 4) rfl (.int (x : Int))) (a_cons (d_var (i := 5) rfl (.int (y : Int))) a_nil))) (d_var (i := 1) rfl ((h2.up e1).up e3)) (r_in (K := K) (lay_P2 (x, y)).shaped (lay_map lay_P2 ps).shaped)
        rw [eqv_I1] at a1
        have ea := any_eqv eqv_P2 (x, y) ps
        rw [ea] at a2
        refine d_orV a1 fun _ => a2.is (congrArg PyData.bool (decide_eq_decide.mpr Iff.rfl)))
    rw [lc_all] at z
    exact z
  show tSeq _ _ _ [some (.int (n : Int)), some v2, some (.ref pf), none, none, none] H1
  have m1 : Mat G1 H1 pf n ρ (fun a b => decide (a = b) || decide ((a, b) ∈ ps)) := ⟨gf, hf, inj, ne, fun a ha => by
    obtain ⟨r1, xs, r2, r3⟩ := (rows a ha).2
    have e : (List.range n).map (fun b => PyData.bool (decide (a = b) || decide ((a, b) ∈ ps))) = ((List.range n).map fun b => (decide (a = b) || decide ((a, b) ∈ ps))).map PyData.bool := by rw [List.map_map]; rfl
    rw [e] at r3
    have e2 := r3.bls
    rw [List.map_map] at e2
    subst e2
    exact ⟨r1, r2⟩⟩
  have fresh : ∀ a, a < n → H (ρ a) = none := fun a ha => (rows a ha).1
  have f0 : FW ps n 0 0 0 (fun a b => decide (a = b) || decide ((a, b) ∈ ps)) := FW.start fun a b _ _ => by simp
  refine q_forR (a_cons (d_var rfl (.int _)) a_nil) g1.gh (by omega) (fun k σ' G' H' => ∃ M o3 o4 o5, σ' = [some (.int (n : Int)), some v2, some (.ref pf), o3, o4, o5] ∧ Grow M0 G H G' H' ∧ Mat G' H' pf n ρ M ∧ FW ps n k 0 0 M)
    (fun G2 H2 g2 => ⟨_, none, none, none, rfl, g1.trans g2, m1.grow g2, f0⟩) ?_ ?_
  · rintro km σ' G2 H2 hk eG2 eH2 ⟨M, o3, o4, o5, rfl, g2, m2, f2⟩ Nx hNx
    show tFor _ _ _ _ [some (.int (n : Int)), some v2, some (.ref pf), some (.int (km : Int)), o4, o5] H2
    refine s_forR (a_cons (d_var rfl (.int _)) a_nil) eH2 (by omega) (fun i σ' G' H' => ∃ M o4 o5, σ' = [some (.int (n : Int)), some v2, some (.ref pf), some (.int (km : Int)), o4, o5] ∧ Grow M0 G H G' H' ∧ Mat G' H' pf n ρ M ∧ FW ps n km i 0 M)
      (fun G3 H3 g3 => ⟨M, o4, o5, rfl, g2.trans g3, m2.grow g3, f2⟩) ?_ ?_
    · rintro i σ' G3 H3 hi eG3 eH3 ⟨M, o4, o5, rfl, g3, m3, f3⟩ Nx2 hNx2
      show tFor _ _ _ _ [some (.int (n : Int)), some v2, some (.ref pf), some (.int (km : Int)), some (.int (i : Int)), o5] H3
      refine s_forR (a_cons (d_var rfl (.int _)) a_nil) eH3 (by omega) (fun j σ' G' H' => ∃ M o5, σ' = [some (.int (n : Int)), some v2, some (.ref pf), some (.int (km : Int)), some (.int (i : Int)), o5] ∧ Grow M0 G H G' H' ∧ Mat G' H' pf n ρ M ∧ FW ps n km i j M)
        (fun G4 H4 g4 => ⟨M, o5, rfl, g3.trans g4, m3.grow g4, f3⟩) ?_ ?_
      · rintro j σ' G4 H4 hj eG4 eH4 ⟨M, o5, rfl, g4, m4, f4⟩ Nx3 hNx3
        show tIfS _ _ _ _ [some (.int (n : Int)), some v2, some (.ref pf), some (.int (km : Int)), some (.int (i : Int)), some (.int (j : Int))] H4
        refine m4.get (i := 2) (j := 4) (l := 3) rfl rfl rfl hi hk ⟨_, rfl, ?_⟩
        cases h1 : M i km with
        | false =>
          exact hNx3 _ G4 H4 (Ex.refl _) eH4 ⟨M, _, rfl, g4, m4, f4.skip hk hi hj fun z => by rw [h1] at z; exact absurd z.1 (by decide)⟩
        | true =>
          refine m4.get (i := 2) (j := 3) (l := 5) rfl rfl rfl hk hj ⟨_, rfl, ?_⟩
          cases h2 : M km j with
          | false => exact hNx3 _ G4 H4 (Ex.refl _) eH4 ⟨M, _, rfl, g4, m4, f4.skip hk hi hj fun z => by rw [h2] at z; exact absurd z.2 (by decide)⟩
          | true =>
            refine m4.put eH4 (i := 2) (j := 4) (l := 5) rfl rfl rfl hi hj fun H5 e5 m5 => ?_
            have g5 : Grow M0 G H G4 H5 := by
              rw [e5]
              exact g4.set (.inl (fresh i hi)) (m4.row i hi).1 (by rw [(m4.row i hi).2]; exact fun z => nomatch z)
            exact hNx3 _ G4 H5 (Ex.refl _) g5.gh ⟨_, _, rfl, g5, m5, f4.set hk hi hj h1 h2⟩
      · rintro σ' G4 H4 eG4 eH4 ⟨M, o5, rfl, g4, m4, f4⟩
        exact hNx2 _ G4 H4 eG4 eH4 ⟨M, _, _, rfl, g4, m4, f4.row⟩
    · rintro σ' G3 H3 eG3 eH3 ⟨M, o4, o5, rfl, g3, m3, f3⟩
      exact hNx _ G3 H3 eG3 eH3 ⟨M, _, _, _, rfl, g3, m3, f3.mid⟩
  · rintro σ' G2 H2 eG2 eH2 ⟨M, o3, o4, o5, rfl, g2, m2, f2⟩
    obtain ⟨G3, g3, hd3⟩ := m2.fin g2 hpf fresh
    have e : (PyData.list ((List.range n).map fun a => PyData.list ((List.range n).map fun b => PyData.bool (M a b)))) = MX n ps := by
      unfold MX
      refine congrArg PyData.list (List.map_congr_left fun a ha => congrArg PyData.list (List.map_congr_left fun b hb => congrArg PyData.bool ?_))
      exact f2.fin hps (List.mem_range.mp ha) (List.mem_range.mp hb)
    rw [e] at hd3
    exact s_ret (d_var rfl hd3) g3.gh fun v G4 H4 g4 hv => k v _ G4 H4 rfl (g3.trans g4) hv
end
end CP
set_option Elab.async false
set_option linter.all false
set_option maxRecDepth 100000
set_option maxHeartbeats 4000000
namespace CL
open PySem L2 CM
section
variable {s : Addr} {σ : VSt} {G H : Hp} {te : TE} {D : Ends} {tu tz : TS}
/-- if not te: .., te is true -/
theorem s_notN (h : EvN s te σ G (fun d => d = .bool true)) (e : Ex G H) (m : Src G H s) (k : ∀ G2 H2, Grow (Ms s) G H G2 H2 → Src G2 H2 s → D.nx σ H2) : tIfS (tNot (tTest te)) tu tNext D σ H := by
  show te σ H _
  refine h G H (Ex.refl G) e m _ fun v d G2 H2 hd g m2 hv => ?_
  subst hd
  obtain rfl := hv.eqB
  exact ⟨true, rfl, k G2 H2 g m2⟩
theorem q_notN (h : EvN s te σ G (fun d => d = .bool true)) (e : Ex G H) (m : Src G H s) (k : ∀ G2 H2, Grow (Ms s) G H G2 H2 → Src G2 H2 s → tz D σ H2) : tSeq (tIfS (tNot (tTest te)) tu tNext) tz D σ H := s_notN (D := { D with nx := tz D }) h e m k
end
end CL
namespace CP
open PySem L2 CL CM
section
variable {P : Program} {w : World} {K : PySem.W.Frag} {mg : Str → Option Value} {base : Heap} {Z : Ads}
def R_due : List PyData → (PyData → Prop) → Prop := fun ds S => ∃ (n : Nat) (rs : List Ru), ds = [I1 n, .list (rs.map RU)] ∧ n ≤ 6 ∧ GoodL n rs ∧ S = fun d => d = .list ((dueM n rs).map RU)
theorem sc_law_due : FnScope ["_law_width", "_law_rules_here", "_law_settled", "_law_named", "_law_kind", "_law_a", "_law_b"] ["_law_width", "_law_rules_here"] (defScope s_law_due) := ⟨rfl, rfl, rfl, by decide +kernel, rfl, by decide +kernel, by decide +kernel⟩
theorem ok_law_due {f : Addr} {fd : FuncData} (F : Fun K "_law_due" "_law_due" s_law_due f fd) (T : Txt Z K mg) (F_law_reach : Fn1 P w K mg base "_law_reach" 1 (spR R_reach)) (F_law_arrows : Fn1 P w K mg base "_law_arrows" 2 (spR R_larrows)) (F_law_all : Fn1 P w K mg base "_law_all" 1 (spR R_all)) :
    FnOk P w K mg base CX0 3 f fd ["_law_width", "_law_rules_here"] (spR R_due) := by
  refine F.ok sc_law_due (fun vs H Q E h => spR_len (n := 2) (fun ds S ⟨_, _, e, _⟩ => by rw [e]; rfl) h) (fun cdv A outer s H vs Q E hr h => ?_)
  obtain ⟨G, ds, S, ⟨n, rs, rfl, hn6, hgood, rfl⟩, eG, hd, k⟩ := h
  obtain ⟨v1, r, rfl, h1, hd⟩ := hd.inv
  obtain ⟨v2, r, rfl, h2, hd⟩ := hd.inv
  obtain rfl := hd.inv0
  have nd := sc_law_due.nd
  have hrl := hgood.1
  have hal : ∀ kk, (arrowsL rs kk).length ≤ 1000 := fun kk => Nat.le_trans (arrowsL_len rs kk) (by omega)
  have ham : ∀ kk, ∀ p ∈ arrowsL rs kk, p.1 < n ∧ p.2 < n := fun kk => arrowsL_mem fun r hr => ⟨(hgood.2.1 r hr).1, (hgood.2.1 r hr).2.1⟩
  refine ⟨_, (pss_cons (ps_set (i := 2) nd rfl (by first | exact Or.inl rfl | exact Or.inr rfl) (pe_fn F_law_reach (hr.mono (by decide)) rfl (pa_cons (pv 0) (pa_cons (pe_fn F_law_arrows (hr.mono (by decide)) rfl (pa_cons (pv 0) (pa_cons (pv 1) (pa_cons pe_str pa_nil)))) pa_nil))))
    (pss_cons (ps_set (i := 3) nd rfl (by first | exact Or.inl rfl | exact Or.inr rfl) (pe_fn F_law_reach (hr.mono (by decide)) rfl (pa_cons (pv 0) (pa_cons (pe_fn F_law_arrows (hr.mono (by decide)) rfl (pa_cons (pv 0) (pa_cons (pv 1) (pa_cons pe_str pa_nil)))) pa_nil))))
    (pss_one (ps_ret (pe_lc (own := [("_law_kind", 4), ("_law_a", 5), ("_law_b", 6)]) (by rfl) nd (piListK K (pe_fn F_law_all (hr.mono (by decide)) rfl (pa_cons (pv 0) pa_nil))) (blkOk_by (own := [("_law_kind", 4), ("_law_a", 5), ("_law_b", 6)]) (N := ["_law_width", "_law_rules_here", "_law_settled", "_law_named", "_law_kind", "_law_a", "_law_b"]) (sc := (defScope s_law_due)) (by decide +kernel)) (fun _ _ _ _ _ => (pgTupK K (n := 3) (pgs_cons (pgN 4 nd) (pgs_cons (pgN 5 nd) (pgs_cons (pgN 6 nd) pgs_nil))))) (fun _ _ _ _ _ => pts_one (pt_val (pe_ix (ix_seqK K) (pe_ix (ix_seqK K) (pe_ifExp (pt_cmpR (eqDK K (h64 hr)) (pv 4) pe_str (nomark _)) (pv 2) (pv 3)) (pv 5) (fun _ _ => rfl)) (pv 6) (fun _ _ => rfl)))) (fun _ _ _ _ _ => (pe_tup (pa_cons (pv 4) (pa_cons (pv 5) (pa_cons (pv 6) pa_nil)))))))))), ?_⟩
  show tSeq _ _ _ [some v1, some v2, none, none, none, none, none] H
  have kt : ∀ {σ : VSt} {G : Hp}, EvD (tC (.str "settles")) σ G (.str (kd true)) := d_str
  have kf : ∀ {σ : VSt} {G : Hp}, EvD (tC (.str "within")) σ G (.str (kd false)) := d_str
  refine q_asg (d_call (a_cons (d_var rfl h1) (a_cons (d_call (a_cons (d_var rfl h1) (a_cons (d_var rfl h2) (a_cons kt a_nil))) ⟨n, rs, true, rfl, hn6, hgood, rfl⟩) a_nil)) ⟨n, arrowsL rs true, rfl, hn6, hal _, ham _, rfl⟩) eG fun v3 G1 H1 g1 hv3 => ?_
  show tSeq _ _ _ [some v1, some v2, some v3, none, none, none, none] H1
  refine q_asg (d_call (a_cons (d_var rfl (h1.up g1.g)) (a_cons (d_call (a_cons (d_var rfl (h1.up g1.g)) (a_cons (d_var rfl (h2.up g1.g)) (a_cons kf a_nil))) ⟨n, rs, false, rfl, hn6, hgood, rfl⟩) a_nil)) ⟨n, arrowsL rs false, rfl, hn6, hal _, ham _, rfl⟩) g1.gh fun v4 G2 H2 g2 hv4 => ?_
  show tRet _ _ [some v1, some v2, some v3, some v4, none, none, none] H2
  have h12 := h1.up (g1.trans g2).g
  have h32 := hv3.up g2.g
  have hlen := allR_len n hn6
  have z := m_lcL (K := K) (vs := [4, 5, 6]) (enc := RU) (xs := allR n) (fun r => reachB (arrowsL rs r.1) r.2.1 r.2.2) RU (d_call (E := E0) (R := R_all) (a_cons (d_var (σ := [some v1, some v2, some v3, some v4, none, none, none]) (i := 0) rfl h12) a_nil) ⟨n, rfl, hn6, rfl⟩) (by omega)
    (tt := tTest (tOp (rIx K) (tOp (rIx K) (tIf (tTest (tOp (rEqD K) (tVar 4) (tC (.str "settles")))) (tVar 2) (tVar 3)) (tVar 5)) (tVar 6))) (g := gTup K 3 (gCons (gName 4) (gCons (gName 5) (gCons (gName 6) gNil)))) (te := tTup (tCons (tVar 4) (tCons (tVar 5) (tCons (tVar 6) tNil))))
    (fun x u G1 H1 hx e1 e2 hu Q q => g_tup3 hu e2 fun u1 u2 u3 k1 k2 k3 => q _ rfl (by
      have hx' := mem_allR.mp hx
      have hm : EvD (tIf (tTest (tOp (rEqD K) (tVar 4) (tC (.str "settles")))) (tVar 2) (tVar 3)) [some v1, some v2, some v3, some v4, some u1, some u2, some u3] G1 (MX n (arrowsL rs x.1)) := by
        refine (d_if (b_test (d_op (d_var rfl k1) kt (r_eq (shaped_kd _) (shaped_kd true)))) (fun _ => d_var rfl (h32.up e1)) fun _ => d_var rfl (hv4.up e1)).is ?_
        obtain ⟨k, a, b⟩ := x
        cases k
        · exact if_neg (by rw [eqv_str]; exact (by decide +kernel : ¬ decide (kd false = kd true) = true))
        · exact if_pos (by rw [eqv_str]; exact (by decide +kernel : decide (kd true = kd true) = true))
      exact b_test (d_mx hm (d_var rfl k2) (d_var rfl k3) hx'.1 hx'.2.1)) fun _ => d_tup (a_cons (d_var rfl k1) (a_cons (d_var rfl k2) (a_cons (d_var rfl k3) a_nil))))
  exact s_ret z.toD g2.gh fun v G3 H3 g3 hv => k v _ G3 H3 rfl ((g1.trans g2).trans g3) hv
def R_right : List PyData → (PyData → Prop) → Prop := fun ds S => ∃ (n : Nat) (rs : List Ru), ds = [I1 n, .list (rs.map RU)] ∧ 1 ≤ n ∧ n ≤ 6 ∧ GoodL n rs ∧ S = fun d => d = .bool true
theorem sc_law_is_right : FnScope ["_law_width", "_law_given", "_law_rules_here", "_law_due_here", "_law_rule"] ["_law_width", "_law_given"] (defScope s_law_is_right) := ⟨rfl, rfl, rfl, by decide +kernel, rfl, by decide +kernel, by decide +kernel⟩
theorem ok_law_is_right {f : Addr} {fd : FuncData} {mc : Value} {pR gR gC : Addr} (F : Fun K "_law_is_right" "_law_is_right" s_law_is_right f fd) (T : Txt Z K mg) (U : TxtL Z K mg mc pR gR gC) (F_call : FnR P w K mg base CX0 6 gC (spCallR Z.aR)) (F_law_list : Fn1 P w K mg base "_law_list" 9 (spList Z.aR))
    (F_law_due : Fn1 P w K mg base "_law_due" 3 (spR R_due)) (F_law_all : Fn1 P w K mg base "_law_all" 1 (spR R_all)) (F_law_is_equal : Fn1 P w K mg base "_law_is_equal" 1 (spR R_equal)) : FnOk P w K mg base CX0 10 f fd ["_law_width", "_law_given"] (spR R_right) := by
  refine F.ok sc_law_is_right (fun vs H Q E h => spR_len (n := 2) (fun ds S ⟨_, _, e, _⟩ => by rw [e]; rfl) h) (fun cdv A outer s H vs Q E hr h => ?_)
  obtain ⟨G, ds, S, ⟨n, rs, rfl, hn1, hn6, hgood, rfl⟩, eG, hd, k⟩ := h
  obtain ⟨v1, r, rfl, h1, hd⟩ := hd.inv
  obtain ⟨v2, r, rfl, h2, hd⟩ := hd.inv
  obtain rfl := hd.inv0
  obtain rfl := h1.eqI
  have nd := sc_law_is_right.nd
  refine ⟨_, (pss_cons (ps_par (i := 2) (j := 3) rfl nd rfl rfl (by decide) rfl rfl (pa_cons (pe_fn F_law_list (hr.mono (by decide)) rfl (pa_cons (pv 0) (pa_cons (pv 1) pa_nil))) (pa_cons (pe_fn F_law_due (hr.mono (by decide)) rfl (pa_cons (pv 0) (pa_cons (pv 1) pa_nil))) pa_nil)) (by rfl))
    (pss_cons (ps_for PassesOwn.never rfl (piListK K (pe_fn F_law_all (hr.mono (by decide)) rfl (pa_cons (pv 0) pa_nil))) (pgN 4 nd)
    (pss_one (ps_if (pt_not (pt_val (pe_fn F_law_is_equal (hr.mono (by decide)) rfl (pa_cons (StX.pe_callO (pv 2) U.callO F_call (hr.mono (by decide)) pass0 (pa_cons (pv 4) pa_nil)) (pa_cons (pe_cmpR (inDK K (h65 hr)) (pv 4) (pv 3) (by rfl)) pa_nil))))) (pss_one (ps_ret pe_bl)) pss_nil)))
    (pss_one (ps_ret pe_bl)))), ?_⟩
  show tSeq (tPar 2 3 (tCons _ (tCons _ tNil))) _ _ [some (.int (n : Int)), some v2, none, none, none] H
  show tCall _ _ _ _ _ H _
  refine (a_cons (d_var rfl (.int (n : Int))) (a_cons (d_var rfl h2) a_nil)) G H (Ex.refl G) eG _ fun vs G1 H1 g1 hvs => ?_
  obtain ⟨w1, r, rfl, hw1, hvs⟩ := hvs.inv
  obtain ⟨w2, r, rfl, hw2, hvs⟩ := hvs.inv
  obtain rfl := hvs.inv0
  obtain rfl := hw1.eqI
  refine ⟨G1, w2, rs, n, rfl, g1.gh, hw2, hgood, hn1, hn6, fun vo G2 H2 g2 ro => ?_⟩
  have g12 := g1.trans g2
  refine (d_call (E := E0) (R := R_due) (σ := [some (.int (n : Int)), some v2, none, none, none]) (a_cons (d_var (i := 0) rfl (.int (n : Int))) (a_cons (d_var (i := 1) rfl (h2.up g12.g)) a_nil)) ⟨n, rs, rfl, hn6, hgood, rfl⟩).go g2.gh fun vd G3 H3 g3 hvd => ?_
  refine ⟨vo, vd, rfl, ?_⟩
  show tSeq _ _ _ [some (.int (n : Int)), some v2, some vo, some vd, none] H3
  have g13 := g12.trans g3
  have ro3 := ro.up g3.g
  have hlen := allR_len n hn6
  refine q_forL (enc := RU) (xs := allR n) (d_call (E := E0) (R := R_all) (a_cons (d_var (i := 0) rfl (.int (n : Int))) a_nil) ⟨n, rfl, hn6, rfl⟩) g3.gh
    (fun i σ' G' H' => ∃ o4, σ' = [some (.int (n : Int)), some v2, some vo, some vd, o4] ∧ Grow M0 G H G' H' ∧ RO Z.aR G' vo n rs ∧ DD G' vd (.list ((dueM n rs).map RU)))
    (fun G4 H4 g4 => ⟨none, rfl, g13.trans g4, ro3.up g4.g, hvd.up g4.g⟩) ?_ ?_
  · rintro i x v σ' G4 H4 hi eG4 eH4 hv ⟨o4, rfl, g4, ro4, hvd4⟩ Nx hNx
    show tIfS _ _ _ _ [some (.int (n : Int)), some v2, some vo, some vd, some v] H4
    have hx : x ∈ allR n := List.mem_of_getElem? hi
    have hx' := mem_allR.mp hx
    have hcall : ∀ X : Cx, EvD (StX.tCallO X Z.aR (spCallR Z.aR) E0 (tVar 2) (tCons (tVar 4) tNil)) [some (.int (n : Int)), some v2, some vo, some vd, some v] G4 (.bool (followsM rs x)) := fun X => .mk fun G5 H5 e1 e2 Q q => by
      obtain ⟨p, dx, t, rfl, hp, ht⟩ := id ro4
      refine ⟨_, rfl, p, rfl, _, rfl, .inr ⟨dx, _, e2 _ _ (e1 _ _ hp)⟩, ?_⟩
      exact ⟨G5, _, _, rs, x, n, rfl, e2, ro4.up e1, hv.up e1, hgood, hn6, hx', fun G6 H6 g6 => q _ G6 H6 g6 (.bl _)⟩
    have hin := d_op (d_var (σ := [some (.int (n : Int)), some v2, some vo, some vd, some v]) (i := 4) rfl hv) (d_var (i := 3) rfl hvd4) (r_in (K := K) (lay_RU x).shaped (lay_map lay_RU (dueM n rs)).shaped)
    rw [any_eqv eqv_RU] at hin
    have hin2 := hin.is (congrArg PyData.bool (decide_eq_decide.mpr Iff.rfl : _ = decide (x ∈ dueM n rs)))
    rw [due_iff hx] at hin2
    refine s_when (b := !true) (b_not (b_test (d_call (a_cons (hcall _) (a_cons hin2 a_nil)) ⟨followsM rs x, rfl, rfl⟩))) eH4 (fun hb => absurd hb (by decide)) fun _ G5 H5 g5 => ?_
    exact hNx _ G5 H5 g5.g g5.gh ⟨_, rfl, g4.trans g5, ro4.up g5.g, hvd4.up g5.g⟩
  · rintro σ' G4 H4 eG4 eH4 ⟨o4, rfl, g4, ro4, hvd4⟩
    exact s_ret d_bl g4.gh fun v G5 H5 g5 hv => k v _ G5 H5 rfl (g4.trans g5) hv
def spLaw (K : PySem.W.Frag) : Sp := fun vs H Q _ => ∃ (a : Addr) (cs : List Int), vs = [.ref a] ∧ SqL K H a (cs.map V.int) ∧ ∀ H2, Q (.bl true) H2
theorem sc_law : FnScope ["_law_script", "_law_index", "_law_source_here", "_law_lap", "_law_width"] ["_law_script"] (defScope s_law) := ⟨rfl, rfl, rfl, by decide +kernel, rfl, by decide +kernel, by decide +kernel⟩
theorem ok_law {f : Addr} {fd : FuncData} (F : Fun K "law" "law" s_law f fd) (T : Txt Z K mg) (F_law_cell : Fn1 P w K mg base "_law_cell" 1 (spCell K)) (F_law_source : Fn1 P w K mg base "_law_source" 1 spSrc) (F_law_draw : Fn1 P w K mg base "_law_draw" 1 (spN R_draw))
    (F_law_nearly : Fn1 P w K mg base "_law_nearly" 2 (spN R_nearly)) (F_law_rules : Fn1 P w K mg base "_law_rules" 4 (spN R_rules)) (F_law_is_right : Fn1 P w K mg base "_law_is_right" 10 (spR R_right)) : FnOk P w K mg base CX0 11 f fd ["_law_script"] (spLaw K) := by
  refine F.ok sc_law (fun vs H Q E ⟨a, cs, e, _⟩ => by rw [e]; rfl) (fun cdv A outer s H vs Q E hr h => ?_)
  obtain ⟨a, cs, rfl, h1, k⟩ := h
  obtain ⟨G, hG⟩ : ∃ G, G = H := ⟨_, rfl⟩
  have eG : Ex G H := hG ▸ Ex.refl _
  have h1 : SqL K G a (cs.map V.int) := hG ▸ h1
  clear hG
  obtain ⟨v1, hv1⟩ : ∃ v, v = V.ref a := ⟨_, rfl⟩
  rw [← hv1]
  have nd := sc_law.nd
  refine ⟨_, (pss_cons (ps_for PassesOwn.never rfl (pi_range1 (by rfl) T.b_range (pa_cons (pe_callB (call_max2 rfl) (by rfl) T.b_max (by decide +kernel) (pa_cons pe_int (pa_cons (pe_callB (call_min2 rfl) (by rfl) T.b_min (by decide +kernel) (pa_cons (pe_callB (crLenK K) (by rfl) T.b_len (by decide +kernel) (pa_cons (pv 0) pa_nil)) (pa_cons pe_int pa_nil))) pa_nil))) pa_nil)) (pgN 1 nd)
    (pss_cons (ps_set (i := 2) nd rfl (by first | exact Or.inl rfl | exact Or.inr rfl) (pe_fn F_law_source (hr.mono (by decide)) rfl (pa_cons (pe_fn F_law_cell (hr.mono (by decide)) rfl (pa_cons (pv 0) (pa_cons (pv 1) pa_nil))) pa_nil)))
    (pss_cons (ps_if (pt_not (pt_val (pe_fn F_law_is_right (hr.mono (by decide)) rfl (pa_cons pe_int (pa_cons (pe_fn F_law_nearly (hr.mono (by decide)) rfl (pa_cons (pv 2) pa_nil)) pa_nil))))) (pss_one (ps_ret pe_bl)) pss_nil)
    (pss_one (ps_for PassesOwn.never rfl (pi_range1 (by rfl) T.b_range (pa_cons pe_int pa_nil)) (pgN 3 nd)
    (pss_cons (ps_set (i := 4) nd rfl (by first | exact Or.inl rfl | exact Or.inr rfl) (pe_op op_add pe_int (pe_fn F_law_draw (hr.mono (by decide)) rfl (pa_cons (pv 2) (pa_cons pe_int pa_nil)))))
    (pss_one (ps_if (pt_not (pt_val (pe_fn F_law_is_right (hr.mono (by decide)) rfl (pa_cons (pv 4) (pa_cons (pe_fn F_law_rules (hr.mono (by decide)) rfl (pa_cons (pv 2) (pa_cons (pv 4) pa_nil))) pa_nil))))) (pss_one (ps_ret pe_bl)) pss_nil))))))))
    (pss_one (ps_ret pe_bl))), ?_⟩
  show tSeq _ _ _ [some v1, none, none, none, none] H
  have hN : ∃ N : Nat, N ≤ 2 ∧ EvD (tCB (fun xs H Q => ∃ i j, xs = [V.int i, V.int j] ∧ Q (V.int (if j > i then j else i)) H) (tCons (tC (.int 1)) (tCons (tCB (fun xs H Q => ∃ i j, xs = [V.int i, V.int j] ∧ Q (V.int (if j < i then j else i)) H) (tCons (tCB (CL.rLen K) (tCons (tVar 0) tNil)) (tCons (tC (.int 2)) tNil))) tNil))) [some v1, none, none, none, none] G (.int (N : Int)) := by
    refine ⟨max 1 (min cs.length 2), by omega, (d_cb (a_cons d_int (a_cons (d_cb (a_cons (d_lenQ (xs := cs.map V.int) h1 (by rw [hv1]; rfl)) (a_cons d_int a_nil)) c_min2) a_nil)) c_max2).is (congrArg PyData.int ?_)⟩
    rw [List.length_map]
    split <;> split <;> omega
  obtain ⟨N, hN2, hN⟩ := hN
  refine q_forR (n := N) (a_cons hN a_nil) eG (by omega) (fun i σ' G' H' => ∃ o1 o2 o3 o4, σ' = [some v1, o1, o2, o3, o4] ∧ Grow M0 G H G' H')
    (fun G2 H2 g2 => ⟨none, none, none, none, rfl, g2⟩) ?_ ?_
  · rintro i σ' G2 H2 hi eG2 eH2 ⟨o1, o2, o3, o4, rfl, g2⟩ Nx hNx
    show tSeq _ _ _ [some v1, some (.int (i : Int)), o2, o3, o4] H2
    -- source = _law_source(_law_cell(script, index))
    refine ⟨_, rfl, _, rfl, G2, a, cs, i, by rw [hv1]; rfl, eH2, sq_up h1 g2.g, fun c G3 H3 g3 => ?_⟩
    refine ⟨G3, c, rfl, g3.gh, fun p G4 H4 hp4 g4 ms4 => ?_⟩
    show tSeq _ _ _ [some v1, some (.int (i : Int)), some (.ref p), o3, o4] H4
    have g34 := g3.trans g4
    have hpH : H p = none := (g2.trans g3).there p hp4
    have g24 : Grow (Ms p) G H G4 H4 := (g2.trans g34).of0
    refine q_notN (s := p) (n_callS (na_cons (n_d d_int) (na_cons (n_call (v_var rfl) a_nil ⟨rfl, rfl⟩) na_nil)) fun ds hds => ?_) g4.gh ms4 fun G5 H5 g5 ms5 => ?_
    · obtain ⟨d, es, rfl, rfl, d2, es2, rfl, ⟨rs, hg, rfl⟩, rfl⟩ := hds
      exact ⟨6, rs, rfl, by decide, by decide, hg, rfl⟩
    have g25 : Grow M0 G H G5 H5 := (g2.trans g34).priv g5 hpH
    refine s_forR (n := 6) (a_cons d_int a_nil) g5.gh (by decide) (fun j σ' G' H' => ∃ o3 o4, σ' = [some v1, some (.int (i : Int)), some (.ref p), o3, o4] ∧ Grow M0 G H G' H' ∧ Src G' H' p)
      (fun G6 H6 g6 => ⟨o3, o4, rfl, g25.trans g6, ms5.grow0 g6⟩) ?_ ?_
    · rintro j σ' G6 H6 hj eG6 eH6 ⟨o3, o4, rfl, g6, ms6⟩ Nx2 hNx2
      show tSeq _ _ _ [some v1, some (.int (i : Int)), some (.ref p), some (.int (j : Int)), o4] H6
      refine q_asgN (s := p) (S := fun d => ∃ n, 1 ≤ n ∧ n ≤ 6 ∧ d = I1 n) (n_op (n_d d_int) (n_call (v_var rfl) (a_cons d_int a_nil) ⟨6, rfl, by decide, by decide, rfl⟩) fun d e hd he => ?_) eH6 ms6 fun v7 d7 G7 H7 hd7 g7 ms7 hv7 => ?_
      · subst hd
        obtain ⟨q, hq, rfl⟩ := he
        exact ⟨I1 (1 + q), ⟨1 + q, by omega, by omega, rfl⟩, RvD.is r_I0 (congrArg PyData.int (by omega))⟩
      obtain ⟨n, hn1, hn6, rfl⟩ := hd7
      show tIfS _ _ _ _ [some v1, some (.int (i : Int)), some (.ref p), some (.int (j : Int)), some v7] H7
      refine s_notN (s := p) (n_callS (na_cons (n_d (d_var rfl hv7)) (na_cons (n_call (v_var rfl) (a_cons (d_var rfl hv7) a_nil) ⟨n, rfl, hn1, hn6, rfl⟩) na_nil)) fun ds hds => ?_) g7.gh ms7 fun G8 H8 g8 ms8 => ?_
      · obtain ⟨d, es, rfl, rfl, d2, es2, rfl, ⟨rs, hg, rfl⟩, rfl⟩ := hds
        exact ⟨n, rs, rfl, hn1, hn6, hg, rfl⟩
      exact hNx2 _ G8 H8 (g7.g.trans g8.g) g8.gh ⟨_, _, rfl, g6.priv (g7.trans g8) hpH, ms8⟩
    · rintro σ' G6 H6 eG6 eH6 ⟨o3, o4, rfl, g6, ms6⟩
      exact hNx _ G6 H6 (g34.g.trans (g5.g.trans eG6)) eH6 ⟨_, _, _, _, rfl, g6⟩
  · rintro σ' G2 H2 eG2 eH2 ⟨o1, o2, o3, o4, rfl, g2⟩
    exact s_ret d_bl g2.gh fun v G3 H3 g3 hv => hv.eqB ▸ k H3
end
end CP
set_option Elab.async false
set_option linter.all false
set_option maxRecDepth 100000
set_option maxHeartbeats 4000000
namespace CP
open PySem L2 CL CM
/-- a def of the module, as the top has made it -/
def DefK (K : PySem.W.Frag) (x : Str) (st : Stmt) : Prop := ∃ (f : Addr) (fd : FuncData), Fun K x x st f fd ∧ PySem.W.nsIn K mainGlobals x = some (some (.ref f))
theorem defK {K : PySem.W.Frag} {x : Str} {st : Stmt} {f : Addr} {oc : Value} {od an : Option Addr} {osl : Array (Option Value)} {kV doc pm cdv ct : Value} (a : PySem.W.nsIn K mainGlobals x = some (some (.ref f)))
    (l : K.lookup f = some ⟨oc, od, .func (PySem.W.fnOf x x (defArgs st) (defBody st) (defScope st) .none kV doc pm an cdv ct), osl⟩) (c : PySem.W.codeIn K cdv x = true) (k : PySem.W.keepIn K (.ref f) = true) : DefK K x st := ⟨f, _, fun_mk l c k, a⟩
/-- a def of the class -/
def MetK (K : PySem.W.Frag) (x q : Str) (st : Stmt) (f : Addr) : Prop := ∃ fd : FuncData, Fun K x q st f fd
theorem metK {K : PySem.W.Frag} {x q : Str} {st : Stmt} {f : Addr} {oc : Value} {od an : Option Addr} {osl : Array (Option Value)} {kV doc pm cdv ct : Value}
    (l : K.lookup f = some ⟨oc, od, .func (PySem.W.fnOf x q (defArgs st) (defBody st) (defScope st) .none kV doc pm an cdv ct), osl⟩) (c : PySem.W.codeIn K cdv q = true) (k : PySem.W.keepIn K (.ref f) = true) : MetK K x q st f := ⟨_, fun_mk l c k⟩
theorem all_mk {l : PySem.W.OpenLaw} {w : World} {K : PySem.W.Frag} {h : Heap} {mg : Str → Option Value} {fa C fi pR gR gC : Addr} {mc : Value} {rest : List Value} {tS tW tM : Tok} (X : K.In h) (G : h.Ns mainGlobals mg) (hfa : mg "law" = some (.ref fa))
    (d_shortest : DefK K "shortest" s_shortest)
    (d_leads : DefK K "leads" s_leads)
    (d_downs : DefK K "downs" s_downs)
    (d_ring_of : DefK K "ring_of" s_ring_of)
    (d_arrows : DefK K "arrows" s_arrows)
    (d_follows : DefK K "follows" s_follows)
    (d_is_integer : DefK K "is_integer" s_is_integer)
    (d_is_between : DefK K "is_between" s_is_between)
    (d_need_width : DefK K "need_width" s_need_width)
    (d_is_column : DefK K "is_column" s_is_column)
    (d_is_rule : DefK K "is_rule" s_is_rule)
    (d_need_rule : DefK K "need_rule" s_need_rule)
    (d_are_rules : DefK K "are_rules" s_are_rules)
    (d_column_of : DefK K "column_of" s_column_of)
    (d_rule_of : DefK K "rule_of" s_rule_of)
    (d_law_cell : DefK K "_law_cell" s_law_cell)
    (d_law_source : DefK K "_law_source" s_law_source)
    (d_law_draw : DefK K "_law_draw" s_law_draw)
    (d_law_choose : DefK K "_law_choose" s_law_choose)
    (d_law_is_equal : DefK K "_law_is_equal" s_law_is_equal)
    (d_law_mixed : DefK K "_law_mixed" s_law_mixed)
    (d_law_step : DefK K "_law_step" s_law_step)
    (d_law_rules : DefK K "_law_rules" s_law_rules)
    (d_law_list : DefK K "_law_list" s_law_list)
    (d_law_all : DefK K "_law_all" s_law_all)
    (d_law_reach : DefK K "_law_reach" s_law_reach)
    (d_law_downs : DefK K "_law_downs" s_law_downs)
    (d_law_arrows : DefK K "_law_arrows" s_law_arrows)
    (d_law_due : DefK K "_law_due" s_law_due)
    (d_law_nearly : DefK K "_law_nearly" s_law_nearly)
    (d_law_is_right : DefK K "_law_is_right" s_law_is_right)
    (d_law : DefK K "law" s_law)
    (kS : PySem.W.nsIn K mainGlobals "SETTLES" = some (some (.str "settles" tS))) (kW : PySem.W.nsIn K mainGlobals "WITHIN" = some (some (.str "within" tW))) (kM : PySem.W.nsIn K mainGlobals "MOST_WIDTH" = some (some (.int 6 tM)))
    (aC : PySem.W.nsIn K mainGlobals "Rules" = some (some (.ref C)))
    (i0 : PySem.W.findIn K (.ref C) "__init__" = some (some (.ref fi))) (i1 : PySem.W.isFn K (.ref fi) = true) (i2 : MetK K "__init__" "Rules.__init__" s_Rules_init fi)
    (r0 : PySem.W.typeIn K (.ref C) = some mc) (r1 : PySem.W.readsIn K C mc = true) (r2 : PySem.W.specialIn K (.ref C) "__getattribute__" = some (some (.builtin "type.__getattribute__"))) (r3 : PySem.W.findCls K (.ref C) mc "read" = some (.get (.builtin "classmethod.__get__") (.ref pR) .none (.ref C))) (r4 : PySem.W.recIn K pR "classmethod" = some (.ref gR :: rest)) (r5 : PySem.W.fnIn K gR = true) (r6 : MetK K "read" "Rules.read" s_Rules_read gR)
    (q0 : PySem.W.findIn K (.ref C) "__call__" = some (some (.ref gC))) (q1 : PySem.W.isFn K (.ref gC) = true) (q2 : PySem.W.fnIn K gC = true) (q3 : MetK K "__call__" "Rules.__call__" s_Rules_call gC)
    (pg : PySem.W.plainGet K C Str.empty = true) (hd : PySem.W.hasDictIn K C = true) (po : PySem.W.plainOver K C = true) (sa : PySem.W.findIn K (.ref C) "__setattr__" = some (some (.builtin "object.__setattr__"))) (mk : PySem.W.makesIn K C = true) (kc : PySem.W.keepIn K (.ref C) = true)
    (nC : PySem.W.findIn K (.ref C) "columns" = some none) (nK : PySem.W.findIn K (.ref C) "kept" = some none)
    (z_len : PySem.W.nsIn K mainGlobals "len" = some none) (z_range : PySem.W.nsIn K mainGlobals "range" = some none) (z_sorted : PySem.W.nsIn K mainGlobals "sorted" = some none) (z_set : PySem.W.nsIn K mainGlobals "set" = some none) (z_all : PySem.W.nsIn K mainGlobals "all" = some none) (z_isinstance : PySem.W.nsIn K mainGlobals "isinstance" = some none) (z_int : PySem.W.nsIn K mainGlobals "int" = some none) (z_bool : PySem.W.nsIn K mainGlobals "bool" = some none) (z_str : PySem.W.nsIn K mainGlobals "str" = some none) (z_tuple : PySem.W.nsIn K mainGlobals "tuple" = some none) (z_max : PySem.W.nsIn K mainGlobals "max" = some none) (z_min : PySem.W.nsIn K mainGlobals "min" = some none) (z_repr : PySem.W.nsIn K mainGlobals "repr" = some none) (z_list : PySem.W.nsIn K mainGlobals "list" = some none) (z_enumerate : PySem.W.nsIn K mainGlobals "enumerate" = some none) :
    ∃ fd : FuncData, (∀ (s : Shared) (v : Value), BindsTo s fd ⟨[v], []⟩ [("_law_script", v)]) ∧ ∀ base : Heap, K.In base → base.Ns mainGlobals mg → FnOk l.prog w K mg base CX0 11 fa fd ["_law_script"] (spLaw K) := by
  have T : Txt ⟨tS, tW, tM, C⟩ K mg := ⟨PySem.W.mg_of X G kS, PySem.W.mg_of X G kW, PySem.W.mg_of X G kM, PySem.W.mg_none_of X G z_len, PySem.W.mg_none_of X G z_range, PySem.W.mg_none_of X G z_sorted, PySem.W.mg_none_of X G z_set, PySem.W.mg_none_of X G z_all, PySem.W.mg_none_of X G z_isinstance, PySem.W.mg_none_of X G z_int, PySem.W.mg_none_of X G z_bool, PySem.W.mg_none_of X G z_str, PySem.W.mg_none_of X G z_tuple, PySem.W.mg_none_of X G z_max, PySem.W.mg_none_of X G z_min, PySem.W.mg_none_of X G z_repr, PySem.W.mg_none_of X G z_list, PySem.W.mg_none_of X G z_enumerate⟩
  have V : TxtC ⟨tS, tW, tM, C⟩ K := ⟨⟨pg, hd, po, sa⟩, nC, nK⟩
  have U : TxtL ⟨tS, tW, tM, C⟩ K mg mc pR gR gC := ⟨PySem.W.mg_of X G aC, ⟨r1, r2⟩, ⟨r3, ⟨rest, r4⟩, r5⟩, ⟨q0, q1, q2⟩⟩
  have M_init : Mk K C fi := ⟨mk, i0, i1, kc⟩
  generalize hZ : (⟨tS, tW, tM, C⟩ : Ads) = Z at T U V
  have eC : C = Z.aR := by rw [← hZ]
  subst eC
  obtain ⟨f_shortest, fd_shortest, F_shortest, a_shortest⟩ := d_shortest
  obtain ⟨f_leads, fd_leads, F_leads, a_leads⟩ := d_leads
  obtain ⟨f_downs, fd_downs, F_downs, a_downs⟩ := d_downs
  obtain ⟨f_ring_of, fd_ring_of, F_ring_of, a_ring_of⟩ := d_ring_of
  obtain ⟨f_arrows, fd_arrows, F_arrows, a_arrows⟩ := d_arrows
  obtain ⟨f_follows, fd_follows, F_follows, a_follows⟩ := d_follows
  obtain ⟨f_is_integer, fd_is_integer, F_is_integer, a_is_integer⟩ := d_is_integer
  obtain ⟨f_is_between, fd_is_between, F_is_between, a_is_between⟩ := d_is_between
  obtain ⟨f_need_width, fd_need_width, F_need_width, a_need_width⟩ := d_need_width
  obtain ⟨f_is_column, fd_is_column, F_is_column, a_is_column⟩ := d_is_column
  obtain ⟨f_is_rule, fd_is_rule, F_is_rule, a_is_rule⟩ := d_is_rule
  obtain ⟨f_need_rule, fd_need_rule, F_need_rule, a_need_rule⟩ := d_need_rule
  obtain ⟨f_are_rules, fd_are_rules, F_are_rules, a_are_rules⟩ := d_are_rules
  obtain ⟨f_column_of, fd_column_of, F_column_of, a_column_of⟩ := d_column_of
  obtain ⟨f_rule_of, fd_rule_of, F_rule_of, a_rule_of⟩ := d_rule_of
  obtain ⟨f_law_cell, fd_law_cell, F_law_cell, a_law_cell⟩ := d_law_cell
  obtain ⟨f_law_source, fd_law_source, F_law_source, a_law_source⟩ := d_law_source
  obtain ⟨f_law_draw, fd_law_draw, F_law_draw, a_law_draw⟩ := d_law_draw
  obtain ⟨f_law_choose, fd_law_choose, F_law_choose, a_law_choose⟩ := d_law_choose
  obtain ⟨f_law_is_equal, fd_law_is_equal, F_law_is_equal, a_law_is_equal⟩ := d_law_is_equal
  obtain ⟨f_law_mixed, fd_law_mixed, F_law_mixed, a_law_mixed⟩ := d_law_mixed
  obtain ⟨f_law_step, fd_law_step, F_law_step, a_law_step⟩ := d_law_step
  obtain ⟨f_law_rules, fd_law_rules, F_law_rules, a_law_rules⟩ := d_law_rules
  obtain ⟨f_law_list, fd_law_list, F_law_list, a_law_list⟩ := d_law_list
  obtain ⟨f_law_all, fd_law_all, F_law_all, a_law_all⟩ := d_law_all
  obtain ⟨f_law_reach, fd_law_reach, F_law_reach, a_law_reach⟩ := d_law_reach
  obtain ⟨f_law_downs, fd_law_downs, F_law_downs, a_law_downs⟩ := d_law_downs
  obtain ⟨f_law_arrows, fd_law_arrows, F_law_arrows, a_law_arrows⟩ := d_law_arrows
  obtain ⟨f_law_due, fd_law_due, F_law_due, a_law_due⟩ := d_law_due
  obtain ⟨f_law_nearly, fd_law_nearly, F_law_nearly, a_law_nearly⟩ := d_law_nearly
  obtain ⟨f_law_is_right, fd_law_is_right, F_law_is_right, a_law_is_right⟩ := d_law_is_right
  obtain ⟨f_law, fd_law, F_law, a_law⟩ := d_law
  obtain ⟨fd_init, F_init⟩ := i2
  obtain ⟨fd_read, F_read⟩ := r6
  obtain ⟨fd_call, F_call⟩ := q3
  cases hfa.symm.trans (PySem.W.mg_of X G a_law)
  have b_shortest := F_shortest.binds (ps := ["pairs", "a", "b"]) fun _ _ _ _ _ _ us hl => match us, hl with | [_, _, _], _ => rfl
  have b_leads := F_leads.binds (ps := ["pairs", "a", "b"]) fun _ _ _ _ _ _ us hl => match us, hl with | [_, _, _], _ => rfl
  have b_downs := F_downs.binds (ps := ["rules"]) fun _ _ _ _ _ _ us hl => match us, hl with | [_], _ => rfl
  have b_ring_of := F_ring_of.binds (ps := ["rules", "kind", "a", "b"]) fun _ _ _ _ _ _ us hl => match us, hl with | [_, _, _, _], _ => rfl
  have b_arrows := F_arrows.binds (ps := ["rules", "kind"]) fun _ _ _ _ _ _ us hl => match us, hl with | [_, _], _ => rfl
  have b_follows := F_follows.binds (ps := ["rules", "rule"]) fun _ _ _ _ _ _ us hl => match us, hl with | [_, _], _ => rfl
  have b_is_integer := F_is_integer.binds (ps := ["thing"]) fun _ _ _ _ _ _ us hl => match us, hl with | [_], _ => rfl
  have b_is_between := F_is_between.binds (ps := ["thing", "low", "high"]) fun _ _ _ _ _ _ us hl => match us, hl with | [_, _, _], _ => rfl
  have b_need_width := F_need_width.binds (ps := ["thing"]) fun _ _ _ _ _ _ us hl => match us, hl with | [_], _ => rfl
  have b_is_column := F_is_column.binds (ps := ["thing", "width"]) fun _ _ _ _ _ _ us hl => match us, hl with | [_, _], _ => rfl
  have b_is_rule := F_is_rule.binds (ps := ["thing", "width"]) fun _ _ _ _ _ _ us hl => match us, hl with | [_, _], _ => rfl
  have b_need_rule := F_need_rule.binds (ps := ["thing", "width"]) fun _ _ _ _ _ _ us hl => match us, hl with | [_, _], _ => rfl
  have b_are_rules := F_are_rules.binds (ps := ["things", "width"]) fun _ _ _ _ _ _ us hl => match us, hl with | [_, _], _ => rfl
  have b_column_of := F_column_of.binds (ps := ["word"]) fun _ _ _ _ _ _ us hl => match us, hl with | [_], _ => rfl
  have b_rule_of := F_rule_of.binds (ps := ["line"]) fun _ _ _ _ _ _ us hl => match us, hl with | [_], _ => rfl
  have b_law_cell := F_law_cell.binds (ps := ["_law_script", "_law_index"]) fun _ _ _ _ _ _ us hl => match us, hl with | [_, _], _ => rfl
  have b_law_source := F_law_source.binds (ps := ["_law_cell_here"]) fun _ _ _ _ _ _ us hl => match us, hl with | [_], _ => rfl
  have b_law_draw := F_law_draw.binds (ps := ["_law_source_here", "_law_many"]) fun _ _ _ _ _ _ us hl => match us, hl with | [_, _], _ => rfl
  have b_law_choose := F_law_choose.binds (ps := ["_law_source_here", "_law_values"]) fun _ _ _ _ _ _ us hl => match us, hl with | [_, _], _ => rfl
  have b_law_is_equal := F_law_is_equal.binds (ps := ["_law_actual", "_law_expected"]) fun _ _ _ _ _ _ us hl => match us, hl with | [_, _], _ => rfl
  have b_law_mixed := F_law_mixed.binds (ps := ["_law_source_here", "_law_many"]) fun _ _ _ _ _ _ us hl => match us, hl with | [_, _], _ => rfl
  have b_law_step := F_law_step.binds (ps := ["_law_source_here", "_law_a", "_law_b", "_law_kinds"]) fun _ _ _ _ _ _ us hl => match us, hl with | [_, _, _, _], _ => rfl
  have b_law_rules := F_law_rules.binds (ps := ["_law_source_here", "_law_width"]) fun _ _ _ _ _ _ us hl => match us, hl with | [_, _], _ => rfl
  have b_law_list := F_law_list.binds (ps := ["_law_width", "_law_rules_here"]) fun _ _ _ _ _ _ us hl => match us, hl with | [_, _], _ => rfl
  have b_law_all := F_law_all.binds (ps := ["_law_width"]) fun _ _ _ _ _ _ us hl => match us, hl with | [_], _ => rfl
  have b_law_reach := F_law_reach.binds (ps := ["_law_width", "_law_pairs"]) fun _ _ _ _ _ _ us hl => match us, hl with | [_, _], _ => rfl
  have b_law_downs := F_law_downs.binds (ps := ["_law_rules_here"]) fun _ _ _ _ _ _ us hl => match us, hl with | [_], _ => rfl
  have b_law_arrows := F_law_arrows.binds (ps := ["_law_width", "_law_rules_here", "_law_kind"]) fun _ _ _ _ _ _ us hl => match us, hl with | [_, _, _], _ => rfl
  have b_law_due := F_law_due.binds (ps := ["_law_width", "_law_rules_here"]) fun _ _ _ _ _ _ us hl => match us, hl with | [_, _], _ => rfl
  have b_law_nearly := F_law_nearly.binds (ps := ["_law_source_here"]) fun _ _ _ _ _ _ us hl => match us, hl with | [_], _ => rfl
  have b_law_is_right := F_law_is_right.binds (ps := ["_law_width", "_law_given"]) fun _ _ _ _ _ _ us hl => match us, hl with | [_, _], _ => rfl
  have b_read := F_read.binds (ps := ["cls", "width", "text"]) fun _ _ _ _ _ _ us hl => match us, hl with | [_, _, _], _ => rfl
  have b_call := F_call.binds (ps := ["self", "rule"]) fun _ _ _ _ _ _ us hl => match us, hl with | [_, _], _ => rfl
  obtain ⟨oc, od, kV, doc, pm, an, cdv, ct, osl, efd, _, _⟩ := F_law.ex
  refine ⟨fd_law, fun s v => by rw [efd]; exact .of_eq rfl, fun base _ _ => ?_⟩
  have X_shortest : Fn1 l.prog w K mg base "shortest" 1 (spR R_shortest) := ⟨f_shortest, fd_shortest, _, ok_shortest F_shortest T , PySem.W.mg_of X G a_shortest, F_shortest.kp, b_shortest⟩
  have X_leads : Fn1 l.prog w K mg base "leads" 2 (spR R_leads) := ⟨f_leads, fd_leads, _, ok_leads F_leads T X_shortest, PySem.W.mg_of X G a_leads, F_leads.kp, b_leads⟩
  have X_downs : Fn1 l.prog w K mg base "downs" 1 (spR R_downs) := ⟨f_downs, fd_downs, _, ok_downs F_downs T , PySem.W.mg_of X G a_downs, F_downs.kp, b_downs⟩
  have X_ring_of : Fn1 l.prog w K mg base "ring_of" 2 (spR R_ring) := ⟨f_ring_of, fd_ring_of, _, ok_ring_of F_ring_of T X_shortest X_downs, PySem.W.mg_of X G a_ring_of, F_ring_of.kp, b_ring_of⟩
  have X_arrows : Fn1 l.prog w K mg base "arrows" 3 (spR R_arrows) := ⟨f_arrows, fd_arrows, _, ok_arrows F_arrows T X_ring_of, PySem.W.mg_of X G a_arrows, F_arrows.kp, b_arrows⟩
  have X_follows : Fn1 l.prog w K mg base "follows" 4 (spR R_follows) := ⟨f_follows, fd_follows, _, ok_follows F_follows T X_leads X_arrows, PySem.W.mg_of X G a_follows, F_follows.kp, b_follows⟩
  have X_is_integer : Fn1 l.prog w K mg base "is_integer" 1 (spR R_isint) := ⟨f_is_integer, fd_is_integer, _, ok_is_integer F_is_integer T , PySem.W.mg_of X G a_is_integer, F_is_integer.kp, b_is_integer⟩
  have X_is_between : Fn1 l.prog w K mg base "is_between" 2 (spR R_betw) := ⟨f_is_between, fd_is_between, _, ok_is_between F_is_between T X_is_integer, PySem.W.mg_of X G a_is_between, F_is_between.kp, b_is_between⟩
  have X_need_width : Fn1 l.prog w K mg base "need_width" 3 (spR R_needw) := ⟨f_need_width, fd_need_width, _, ok_need_width F_need_width T X_is_between, PySem.W.mg_of X G a_need_width, F_need_width.kp, b_need_width⟩
  have X_is_column : Fn1 l.prog w K mg base "is_column" 3 (spR R_col) := ⟨f_is_column, fd_is_column, _, ok_is_column F_is_column T X_is_between, PySem.W.mg_of X G a_is_column, F_is_column.kp, b_is_column⟩
  have X_is_rule : Fn1 l.prog w K mg base "is_rule" 4 (spR R_isrule) := ⟨f_is_rule, fd_is_rule, _, ok_is_rule F_is_rule T X_is_column, PySem.W.mg_of X G a_is_rule, F_is_rule.kp, b_is_rule⟩
  have X_need_rule : Fn1 l.prog w K mg base "need_rule" 5 (spR R_needrule) := ⟨f_need_rule, fd_need_rule, _, ok_need_rule F_need_rule T X_is_rule, PySem.W.mg_of X G a_need_rule, F_need_rule.kp, b_need_rule⟩
  have X_are_rules : Fn1 l.prog w K mg base "are_rules" 5 (spR R_arerules) := ⟨f_are_rules, fd_are_rules, _, ok_are_rulesL F_are_rules T X_is_rule, PySem.W.mg_of X G a_are_rules, F_are_rules.kp, b_are_rules⟩
  have X_are_rulesT : Fn1 l.prog w K mg base "are_rules" 5 spArT := ⟨f_are_rules, fd_are_rules, _, ok_are_rulesT F_are_rules T X_is_rule, PySem.W.mg_of X G a_are_rules, F_are_rules.kp, b_are_rules⟩
  have X_column_of : Fn1 l.prog w K mg base "column_of" 1 (spR R_colof) := ⟨f_column_of, fd_column_of, _, ok_column_of F_column_of T , PySem.W.mg_of X G a_column_of, F_column_of.kp, b_column_of⟩
  have X_rule_of : Fn1 l.prog w K mg base "rule_of" 2 (spR R_ruleof) := ⟨f_rule_of, fd_rule_of, _, ok_rule_of F_rule_of T X_column_of, PySem.W.mg_of X G a_rule_of, F_rule_of.kp, b_rule_of⟩
  have Y_init : FnR l.prog w K mg base CX0 6 fi (spInitS Z.aR) := ok_init F_init T V X_need_width X_are_rulesT
  have Y_read : FnR l.prog w K mg base CX0 8 gR (spRead Z.aR) := ((ok_read F_read T X_need_width X_are_rules X_rule_of M_init Y_init).raw b_read .nil).imp fun vs H Q E z => by rw [List.append_nil]; exact z
  have Y_call : FnR l.prog w K mg base CX0 6 gC (spCallR Z.aR) := ((ok_callR F_call T V X_need_rule X_follows).raw b_call .nil).imp fun vs H Q E z => by rw [List.append_nil]; exact z
  have X_law_cell : Fn1 l.prog w K mg base "_law_cell" 1 (spCell K) := ⟨f_law_cell, fd_law_cell, _, ok_law_cell F_law_cell T , PySem.W.mg_of X G a_law_cell, F_law_cell.kp, b_law_cell⟩
  have X_law_source : Fn1 l.prog w K mg base "_law_source" 1 spSrc := ⟨f_law_source, fd_law_source, _, ok_law_source F_law_source T , PySem.W.mg_of X G a_law_source, F_law_source.kp, b_law_source⟩
  have X_law_draw : Fn1 l.prog w K mg base "_law_draw" 1 (spN R_draw) := ⟨f_law_draw, fd_law_draw, _, ok_law_draw F_law_draw T , PySem.W.mg_of X G a_law_draw, F_law_draw.kp, b_law_draw⟩
  have X_law_choose : Fn1 l.prog w K mg base "_law_choose" 2 (spN R_choose) := ⟨f_law_choose, fd_law_choose, _, ok_law_choose F_law_choose T X_law_draw, PySem.W.mg_of X G a_law_choose, F_law_choose.kp, b_law_choose⟩
  have X_law_is_equal : Fn1 l.prog w K mg base "_law_is_equal" 1 (spR R_equal) := ⟨f_law_is_equal, fd_law_is_equal, _, ok_law_is_equal F_law_is_equal T , PySem.W.mg_of X G a_law_is_equal, F_law_is_equal.kp, b_law_is_equal⟩
  have X_law_mixed : Fn1 l.prog w K mg base "_law_mixed" 3 (spN R_mixed) := ⟨f_law_mixed, fd_law_mixed, _, ok_law_mixed F_law_mixed T X_law_choose, PySem.W.mg_of X G a_law_mixed, F_law_mixed.kp, b_law_mixed⟩
  have X_law_step : Fn1 l.prog w K mg base "_law_step" 3 (spN R_step) := ⟨f_law_step, fd_law_step, _, ok_law_step F_law_step T X_law_choose, PySem.W.mg_of X G a_law_step, F_law_step.kp, b_law_step⟩
  have X_law_rules : Fn1 l.prog w K mg base "_law_rules" 4 (spN R_rules) := ⟨f_law_rules, fd_law_rules, _, ok_law_rules F_law_rules T X_law_draw X_law_choose X_law_mixed X_law_step, PySem.W.mg_of X G a_law_rules, F_law_rules.kp, b_law_rules⟩
  have X_law_list : Fn1 l.prog w K mg base "_law_list" 9 (spList Z.aR) := ⟨f_law_list, fd_law_list, _, ok_law_list F_law_list T U Y_read, PySem.W.mg_of X G a_law_list, F_law_list.kp, b_law_list⟩
  have X_law_all : Fn1 l.prog w K mg base "_law_all" 1 (spR R_all) := ⟨f_law_all, fd_law_all, _, ok_law_all F_law_all T , PySem.W.mg_of X G a_law_all, F_law_all.kp, b_law_all⟩
  have X_law_reach : Fn1 l.prog w K mg base "_law_reach" 1 (spR R_reach) := ⟨f_law_reach, fd_law_reach, _, ok_law_reach F_law_reach T , PySem.W.mg_of X G a_law_reach, F_law_reach.kp, b_law_reach⟩
  have X_law_downs : Fn1 l.prog w K mg base "_law_downs" 1 (spR R_ldowns) := ⟨f_law_downs, fd_law_downs, _, ok_law_downs F_law_downs T , PySem.W.mg_of X G a_law_downs, F_law_downs.kp, b_law_downs⟩
  have X_law_arrows : Fn1 l.prog w K mg base "_law_arrows" 2 (spR R_larrows) := ⟨f_law_arrows, fd_law_arrows, _, ok_law_arrows F_law_arrows T X_law_reach X_law_downs, PySem.W.mg_of X G a_law_arrows, F_law_arrows.kp, b_law_arrows⟩
  have X_law_due : Fn1 l.prog w K mg base "_law_due" 3 (spR R_due) := ⟨f_law_due, fd_law_due, _, ok_law_due F_law_due T X_law_reach X_law_arrows X_law_all, PySem.W.mg_of X G a_law_due, F_law_due.kp, b_law_due⟩
  have X_law_nearly : Fn1 l.prog w K mg base "_law_nearly" 2 (spN R_nearly) := ⟨f_law_nearly, fd_law_nearly, _, ok_law_nearly F_law_nearly T X_law_all X_law_draw, PySem.W.mg_of X G a_law_nearly, F_law_nearly.kp, b_law_nearly⟩
  have X_law_is_right : Fn1 l.prog w K mg base "_law_is_right" 10 (spR R_right) := ⟨f_law_is_right, fd_law_is_right, _, ok_law_is_right F_law_is_right T U Y_call X_law_list X_law_due X_law_all X_law_is_equal, PySem.W.mg_of X G a_law_is_right, F_law_is_right.kp, b_law_is_right⟩
  exact ok_law F_law T X_law_cell X_law_source X_law_draw X_law_nearly X_law_rules X_law_is_right
theorem walk {l : PySem.W.OpenLaw} {q : Program} {loose : List Str} {XP : (Str → Option Value) → Heap → Prop} {YP : World → Heap → Prop} {d : DefRec} {K : Params → PySem.W.Frag} (hn : l.most = some 63) (hdf : d.params.defaults = [])
    (hY : ∀ (w : World) (h : Heap), YP w h → (K w.params).In h)
    (F : ∀ (w : World) (mg : Str → Option Value) (fa : Addr) (h : Heap), (K w.params).In h → h.Ns mainGlobals mg → mg d.name = some (.ref fa) →
      ∃ fd : FuncData, (∀ (s : Shared) (u : Value), BindsTo s fd ⟨[u], []⟩ [("_law_script", u)]) ∧ ∀ base : Heap, (K w.params).In base → base.Ns mainGlobals mg → FnOk l.prog w (K w.params) mg base CX0 11 fa fd ["_law_script"] (spLaw (K w.params))) :
    PySem.W.WalkO q loose XP YP l.row.toRowW d [] (fun f vs => PySem.call f vs) :=
  L2.walk_of (n := 63) (k := 11) (x := "_law_script") (CX := fun _ => CX0) (sp := fun w => spLaw (K w.params)) hn (by decide) hdf ⟨rfl, by decide, by decide⟩ hY F (fun _ _ a ns _ _ hS => ⟨a, ns, rfl, hS, fun _ => rfl⟩) fun _ _ _ _ _ z => z
end CP
open PySem PySem.W PyProof.Rows
set_option maxRecDepth 100000 in
set_option maxHeartbeats 0 in
theorem PySem.Challenge.cw_countcycles_k62_which_rules_follow_holds : PySem.Challenge.rw_countcycles_k62_which_rules_follow.Holds := by
  w_on; o_law; k_head; (case hw => w_witness2)
  k_fill
  refine CP.walk (l := PySem.Challenge.rw_countcycles_k62_which_rules_follow) rfl rfl (fun w h Y => PySem.W.kIn_of Y) ?F
  case F =>
    intro w mg fa h KX G hmg
    refine' CP.all_mk KX G hmg (CP.defK ?a0 ?l0 ?c0 ?k0) (CP.defK ?a1 ?l1 ?c1 ?k1) (CP.defK ?a2 ?l2 ?c2 ?k2) (CP.defK ?a3 ?l3 ?c3 ?k3) (CP.defK ?a4 ?l4 ?c4 ?k4) (CP.defK ?a5 ?l5 ?c5 ?k5) (CP.defK ?a6 ?l6 ?c6 ?k6) (CP.defK ?a7 ?l7 ?c7 ?k7) (CP.defK ?a8 ?l8 ?c8 ?k8) (CP.defK ?a9 ?l9 ?c9 ?k9) (CP.defK ?a10 ?l10 ?c10 ?k10) (CP.defK ?a11 ?l11 ?c11 ?k11) (CP.defK ?a12 ?l12 ?c12 ?k12) (CP.defK ?a13 ?l13 ?c13 ?k13) (CP.defK ?a14 ?l14 ?c14 ?k14) (CP.defK ?a15 ?l15 ?c15 ?k15) (CP.defK ?a16 ?l16 ?c16 ?k16) (CP.defK ?a17 ?l17 ?c17 ?k17) (CP.defK ?a18 ?l18 ?c18 ?k18) (CP.defK ?a19 ?l19 ?c19 ?k19) (CP.defK ?a20 ?l20 ?c20 ?k20) (CP.defK ?a21 ?l21 ?c21 ?k21) (CP.defK ?a22 ?l22 ?c22 ?k22) (CP.defK ?a23 ?l23 ?c23 ?k23) (CP.defK ?a24 ?l24 ?c24 ?k24) (CP.defK ?a25 ?l25 ?c25 ?k25) (CP.defK ?a26 ?l26 ?c26 ?k26) (CP.defK ?a27 ?l27 ?c27 ?k27) (CP.defK ?a28 ?l28 ?c28 ?k28) (CP.defK ?a29 ?l29 ?c29 ?k29) (CP.defK ?a30 ?l30 ?c30 ?k30) (CP.defK ?a31 ?l31 ?c31 ?k31) ?kS ?kW ?kM ?aC ?i0 ?i1 (CP.metK ?li2 ?ci2 ?ki2) ?r0 ?r1 ?r2 ?r3 ?r4 ?r5 (CP.metK ?lr6 ?cr6 ?kr6) ?q0 ?q1 ?q2 (CP.metK ?lq3 ?cq3 ?kq3) ?pg ?hd ?po ?sa ?mk ?kc ?nC ?nK ?z_len ?z_range ?z_sorted ?z_set ?z_all ?z_isinstance ?z_int ?z_bool ?z_str ?z_tuple ?z_max ?z_min ?z_repr ?z_list ?z_enumerate
    (case a0 => k_is); (case l0 => k_is); (case c0 => k_is); (case k0 => k_is); (case a1 => k_is); (case l1 => k_is)
    (case c1 => k_is); (case k1 => k_is); (case a2 => k_is); (case l2 => k_is); (case c2 => k_is); (case k2 => k_is)
    (case a3 => k_is); (case l3 => k_is); (case c3 => k_is); (case k3 => k_is); (case a4 => k_is); (case l4 => k_is)
    (case c4 => k_is); (case k4 => k_is); (case a5 => k_is); (case l5 => k_is); (case c5 => k_is); (case k5 => k_is)
    (case a6 => k_is); (case l6 => k_is); (case c6 => k_is); (case k6 => k_is); (case a7 => k_is); (case l7 => k_is)
    (case c7 => k_is); (case k7 => k_is); (case a8 => k_is); (case l8 => k_is); (case c8 => k_is); (case k8 => k_is)
    (case a9 => k_is); (case l9 => k_is); (case c9 => k_is); (case k9 => k_is); (case a10 => k_is); (case l10 => k_is)
    (case c10 => k_is); (case k10 => k_is); (case a11 => k_is); (case l11 => k_is); (case c11 => k_is); (case k11 => k_is)
    (case a12 => k_is); (case l12 => k_is); (case c12 => k_is); (case k12 => k_is); (case a13 => k_is); (case l13 => k_is)
    (case c13 => k_is); (case k13 => k_is); (case a14 => k_is); (case l14 => k_is); (case c14 => k_is); (case k14 => k_is)
    (case a15 => k_is); (case l15 => k_is); (case c15 => k_is); (case k15 => k_is); (case a16 => k_is); (case l16 => k_is)
    (case c16 => k_is); (case k16 => k_is); (case a17 => k_is); (case l17 => k_is); (case c17 => k_is); (case k17 => k_is)
    (case a18 => k_is); (case l18 => k_is); (case c18 => k_is); (case k18 => k_is); (case a19 => k_is); (case l19 => k_is)
    (case c19 => k_is); (case k19 => k_is); (case a20 => k_is); (case l20 => k_is); (case c20 => k_is); (case k20 => k_is)
    (case a21 => k_is); (case l21 => k_is); (case c21 => k_is); (case k21 => k_is); (case a22 => k_is); (case l22 => k_is)
    (case c22 => k_is); (case k22 => k_is); (case a23 => k_is); (case l23 => k_is); (case c23 => k_is); (case k23 => k_is)
    (case a24 => k_is); (case l24 => k_is); (case c24 => k_is); (case k24 => k_is); (case a25 => k_is); (case l25 => k_is)
    (case c25 => k_is); (case k25 => k_is); (case a26 => k_is); (case l26 => k_is); (case c26 => k_is); (case k26 => k_is)
    (case a27 => k_is); (case l27 => k_is); (case c27 => k_is); (case k27 => k_is); (case a28 => k_is); (case l28 => k_is)
    (case c28 => k_is); (case k28 => k_is); (case a29 => k_is); (case l29 => k_is); (case c29 => k_is); (case k29 => k_is)
    (case a30 => k_is); (case l30 => k_is); (case c30 => k_is); (case k30 => k_is); (case a31 => k_is); (case l31 => k_is)
    (case c31 => k_is); (case k31 => k_is); (case kS => k_is); (case kW => k_is); (case kM => k_is); (case aC => k_is)
    (case i0 => k_is); (case i1 => k_is); (case li2 => k_is); (case ci2 => k_is); (case ki2 => k_is); (case r0 => k_is)
    (case r1 => k_is); (case r2 => k_is); (case r3 => k_is); (case r4 => k_is); (case r5 => k_is); (case lr6 => k_is)
    (case cr6 => k_is); (case kr6 => k_is); (case q0 => k_is); (case q1 => k_is); (case q2 => k_is); (case lq3 => k_is)
    (case cq3 => k_is); (case kq3 => k_is); (case pg => k_is); (case hd => k_is); (case po => k_is); (case sa => k_is)
    (case mk => k_is); (case kc => k_is); (case nC => k_is); (case nK => k_is); (case z_len => k_is); (case z_range => k_is)
    (case z_sorted => k_is); (case z_set => k_is); (case z_all => k_is); (case z_isinstance => k_is); (case z_int => k_is); (case z_bool => k_is)
    (case z_str => k_is); (case z_tuple => k_is); (case z_max => k_is); (case z_min => k_is); (case z_repr => k_is); (case z_list => k_is)
    (case z_enumerate => k_is)
#print axioms PySem.Challenge.cw_countcycles_k62_which_rules_follow_holds
