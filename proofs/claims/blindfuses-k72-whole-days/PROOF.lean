import PyProof.Rows.All
import Wide.All
import OpenK.AllK
import Wide.FinOn
import HandS.Base
import HandS.Call
import HandS.List
import HandS.Comp
import HandS.Dict
import HandS.Iter
import HandS.Words
import HandS.TupAny
import HandS.TupMul
import HandS.Zip
import HandS.Conv
import HandS.More
import HandS.SetKeys
import HandS.Walk
import HandS.Evl
import HandS.IsInst
import HandS.Slots
import HandS.SlotsOwn
import HandS.Defaults
import HandS.Star
import HandS.Text
import KE.DataMinMax
import KE.SortData
import KE.GoesEnum
import KE.KDictSum
import HandS.SetFor
import PyProof.TupleKey
import PyProof.DictKind
import HandS.Set
import HandS.TupSets
import KE.KSortTup
import PyProof.ListMulRoad
import PyProof.FactsAll.tuple_2
import PySem.Challenge.RW_blindfuses_k72_whole_days_hour_by_hour
import HandS.WordsList
import KE.KStateDown
import HandS.Ends
import HandS.WordsExc
import HandS.Head0
import HandS.Head1
import HandS.Head2
import HandS.HeadEnd
import HandS.HeadHook1
import HandS.HeadHook2
set_option Elab.async false
set_option linter.all false
set_option maxRecDepth 100000
set_option maxHeartbeats 2000000
/-! Own layer, part 1: the heap in two parts (G: data that only grows; F: what may change), data, expressions. -/
namespace Bf
open PySem L2
abbrev St := L2.St

/-! ### heaps in two parts -/
def Ex (H H' : Hp) : Prop := ∀ a o, H a = some o → H' a = some o
def un (G F : Hp) : Hp := fun a => match G a with | some o => some o | none => F a
def Dj (G F : Hp) : Prop := ∀ a o, G a = some o → F a = none
theorem Ex.refl (H : Hp) : Ex H H := fun _ _ h => h
theorem Ex.trans {H H1 H2 : Hp} (a : Ex H H1) (b : Ex H1 H2) : Ex H H2 := fun x o h => b x o (a x o h)
theorem Ex.new {H : Hp} {p : Addr} {o : HO} (h : H p = none) : Ex H (upd H p o) := fun a u e => by
  rw [upd_ne (ne_of_none e h)]; exact e
theorem ex_un {G F : Hp} : Ex G (un G F) := fun a o h => by unfold un; rw [h]
theorem un_l {G F : Hp} {a : Addr} {o : HO} (h : G a = some o) : un G F a = some o := by unfold un; rw [h]
theorem un_n {G F : Hp} {a : Addr} (h : G a = none) : un G F a = F a := by unfold un; rw [h]
theorem Dj.n {G F : Hp} (d : Dj G F) {a : Addr} {o : HO} (h : F a = some o) : G a = none := by
  cases e : G a with
  | none => rfl
  | some u => rw [d a u e] at h; cases h
theorem un_r {G F : Hp} (d : Dj G F) {a : Addr} {o : HO} (h : F a = some o) : un G F a = some o := by rw [un_n (d.n h)]; exact h
theorem un_no {G F : Hp} {a : Addr} (h : un G F a = none) : G a = none ∧ F a = none := by
  unfold un at h
  cases e : G a with
  | none => rw [e] at h; exact ⟨rfl, h⟩
  | some u => rw [e] at h; cases h
theorem upd_l {G F : Hp} {p : Addr} {o : HO} : upd (un G F) p o = un (upd G p o) F := by
  funext b
  by_cases h : b = p
  · subst h; rw [upd_same]; exact (un_l upd_same).symm
  · rw [upd_ne h]; unfold un; rw [upd_ne h]
theorem upd_r {G F : Hp} {p : Addr} {o : HO} (hn : G p = none) : upd (un G F) p o = un G (upd F p o) := by
  funext b
  by_cases h : b = p
  · subst h; rw [upd_same, un_n hn, upd_same]
  · rw [upd_ne h]; unfold un
    cases G b with
    | none => exact (upd_ne h).symm
    | some u => rfl
/-- a private thing becomes data -/
theorem upd_lr {G F : Hp} {p : Addr} {o : HO} (hn : G p = none) : un G (upd F p o) = un (upd G p o) F := by rw [← upd_r hn, upd_l]
theorem Dj.newL {G F : Hp} (d : Dj G F) {p : Addr} {o : HO} (h : F p = none) : Dj (upd G p o) F := fun a u e => by
  by_cases q : a = p
  · subst q; exact h
  · rw [upd_ne q] at e; exact d a u e
theorem Dj.newR {G F : Hp} (d : Dj G F) {p : Addr} {o : HO} (h : G p = none) : Dj G (upd F p o) := fun a u e => by
  have q : a ≠ p := ne_of_none e h
  rw [upd_ne q]; exact d a u e
theorem Dj.off {G F : Hp} {p : Addr} {o : HO} (d : Dj G (upd F p o)) (h : F p = none) : Dj G F := fun a u e => by
  have z := d a u e
  by_cases q : a = p
  · subst q; exact h
  · rw [upd_ne q] at z; exact z
theorem upd_id {H : Hp} {p : Addr} {o : HO} (h : H p = some o) : upd H p o = H := by
  funext b
  by_cases q : b = p
  · subst q; rw [upd_same, h]
  · exact upd_ne q
theorem upd_comm {H : Hp} {p q : Addr} {o u : HO} (h : p ≠ q) : upd (upd H p o) q u = upd (upd H q u) p o := by
  funext b
  by_cases h1 : b = q
  · rw [h1, upd_same, upd_ne (Ne.symm h), upd_same]
  · by_cases h2 : b = p
    · rw [h2, upd_ne h, upd_same, upd_same]
    · rw [upd_ne h1, upd_ne h2, upd_ne h2, upd_ne h1]
theorem ex_back {H H' : Hp} {p : Addr} (e : Ex H H') (h : H' p = none) : H p = none := by
  cases h1 : H p with
  | none => rfl
  | some o => rw [e p o h1] at h; cases h

/-! ### data -/
section
variable {K : PySem.W.Frag}
theorem rd_ex {H H' : Hp} {a : Addr} {u : HO} (e : Ex H H') (h : Rd H a u) : Rd H' a u := by
  rcases h with h | ⟨o, h⟩
  · exact .inl (e a _ h)
  · exact .inr ⟨o, e a _ h⟩
theorem sqL_ex {H H' : Hp} {a : Addr} {xs : List V} (e : Ex H H') (h : SqL K H a xs) : SqL K H' a xs := h.elim (fun z => .inl (rd_ex e z)) .inr
theorem sqT_ex {H H' : Hp} {a : Addr} {xs : List V} (e : Ex H H') (h : SqT K H a xs) : SqT K H' a xs := h.elim (fun z => .inl (rd_ex e z)) .inr
mutual
theorem dp_ex {H H' : Hp} (e : Ex H H') : ∀ (d : PyData) (v : V), Dp K H v d → Dp K H' v d
  | .none, _, h => by cases h; exact .non
  | .bool b, _, h => by cases h; exact .bl b
  | .int i, _, h => by cases h; exact .int i
  | .str x, _, h => by cases h; exact .str x
  | .list ds, _, h => by
    cases h with
    | lst hs ha => exact .lst (sqL_ex e hs) (dpA_ex e ds _ ha)
  | .tuple ds, _, h => by
    cases h with
    | tup hs ha => exact .tup (sqT_ex e hs) (dpA_ex e ds _ ha)
  | .dict _, _, h => by cases h
theorem dpA_ex {H H' : Hp} (e : Ex H H') : ∀ (ds : List PyData) (vs : List V), DpAll K H vs ds → DpAll K H' vs ds
  | [], _, h => by cases h; exact .nil
  | d :: ds, _, h => by
    cases h with
    | cons h1 h2 => exact .cons (dp_ex e d _ h1) (dpA_ex e ds _ h2)
end
def isN : PyData → Bool
  | .none => true
  | _ => false
/-- v is the datum d in G -/
def D (K : PySem.W.Frag) (d : PyData) : V → Hp → Prop := fun v G => Dp K G v d
def Mo (P : V → Hp → Prop) : Prop := ∀ v G G', Ex G G' → P v G → P v G'
theorem mo_D {d : PyData} : Mo (D K d) := fun v _ _ e h => dp_ex e d v h
theorem D.ex {d : PyData} {v : V} {G G' : Hp} (e : Ex G G') (h : D K d v G) : D K d v G' := dp_ex e d v h
theorem D.int {i : Int} {v : V} {G : Hp} (h : D K (.int i) v G) : v = .int i := by
  have h : Dp K G v (.int i) := h
  cases h; rfl
theorem D.bl {b : Bool} {v : V} {G : Hp} (h : D K (.bool b) v G) : v = .bl b := by
  have h : Dp K G v (.bool b) := h
  cases h; rfl
theorem D.str {x : Str} {v : V} {G : Hp} (h : D K (.str x) v G) : v = .str x := by
  have h : Dp K G v (.str x) := h
  cases h; rfl
theorem D.non {v : V} {G : Hp} (h : D K .none v G) : v = .non := by
  have h : Dp K G v .none := h
  cases h; rfl
theorem D.lst {ds : List PyData} {v : V} {G : Hp} (h : D K (.list ds) v G) : ∃ a xs, v = .ref a ∧ SqL K G a xs ∧ DpAll K G xs ds := by
  have h : Dp K G v (.list ds) := h
  cases h with
  | lst h1 h2 => exact ⟨_, _, rfl, h1, h2⟩
theorem D.tup {ds : List PyData} {v : V} {G : Hp} (h : D K (.tuple ds) v G) : ∃ a xs, v = .ref a ∧ SqT K G a xs ∧ DpAll K G xs ds := by
  have h : Dp K G v (.tuple ds) := h
  cases h with
  | tup h1 h2 => exact ⟨_, _, rfl, h1, h2⟩
theorem dInt {G : Hp} (i : Int) : D K (.int i) (.int i) G := Dp.int i
theorem dBl {G : Hp} (b : Bool) : D K (.bool b) (.bl b) G := Dp.bl b
theorem dStr {G : Hp} (x : Str) : D K (.str x) (.str x) G := Dp.str x
theorem dNon {G : Hp} : D K .none .non G := Dp.non
theorem dpA_len {G : Hp} : ∀ {xs : List V} {ds : List PyData}, DpAll K G xs ds → xs.length = ds.length
  | _, [], h => by cases h; rfl
  | _, d :: ds, h => by
    cases h with
    | cons _ h2 => rw [List.length_cons, List.length_cons, dpA_len h2]
theorem dpA_get {G : Hp} : ∀ {xs : List V} {ds : List PyData} {i : Nat} {d : PyData}, DpAll K G xs ds → ds[i]? = some d → ∃ x, xs[i]? = some x ∧ D K d x G
  | _, [], _, _, h, e => by simp at e
  | _, d :: ds, 0, d', h, e => by
    cases h with
    | cons h1 _ => simp at e; subst e; exact ⟨_, rfl, h1⟩
  | _, d :: ds, i + 1, d', h, e => by
    cases h with
    | cons _ h2 =>
      obtain ⟨x, q1, q2⟩ := dpA_get (i := i) h2 (by simpa using e)
      exact ⟨x, by simpa using q1, q2⟩
theorem dpA_at {G : Hp} : ∀ {xs : List V} {ds : List PyData} {i : Nat} {x : V}, DpAll K G xs ds → xs[i]? = some x → ∃ d, ds[i]? = some d ∧ D K d x G
  | _, [], _, _, h, e => by cases h; simp at e
  | _, d :: ds, 0, x, h, e => by
    cases h with
    | cons h1 _ => simp at e; subst e; exact ⟨_, rfl, h1⟩
  | _, d :: ds, i + 1, x, h, e => by
    cases h with
    | cons _ h2 =>
      obtain ⟨x, q1, q2⟩ := dpA_at (i := i) h2 (by simpa using e)
      exact ⟨x, by simpa using q1, q2⟩
theorem dpA_app {G : Hp} : ∀ {xs ys : List V} {ds es : List PyData}, DpAll K G xs ds → DpAll K G ys es → DpAll K G (xs ++ ys) (ds ++ es)
  | _, _, [], _, h, q => by cases h; exact q
  | _, _, d :: ds, _, h, q => by
    cases h with
    | cons h1 h2 => exact .cons h1 (dpA_app h2 q)
theorem dpA_drop {G : Hp} : ∀ (n : Nat) {xs : List V} {ds : List PyData}, DpAll K G xs ds → DpAll K G (xs.drop n) (ds.drop n)
  | 0, _, _, h => h
  | n + 1, _, [], h => by cases h; exact .nil
  | n + 1, _, d :: ds, h => by
    cases h with
    | cons _ h2 => exact dpA_drop n h2
theorem dpA_take {G : Hp} : ∀ (n : Nat) {xs : List V} {ds : List PyData}, DpAll K G xs ds → DpAll K G (xs.take n) (ds.take n)
  | 0, _, _, h => .nil
  | n + 1, _, [], h => by cases h; exact .nil
  | n + 1, _, d :: ds, h => by
    cases h with
    | cons h1 h2 => exact .cons h1 (dpA_take n h2)
theorem dpA_ints {G : Hp} : ∀ {xs : List V} {ns : List Int}, DpAll K G xs (ns.map PyData.int) → xs = ns.map V.int
  | _, [], h => by cases h; rfl
  | _, n :: ns, h => by
    cases h with
    | cons h1 h2 =>
      have e := D.int h1
      subst e
      rw [List.map_cons, dpA_ints h2]
theorem ints_dpA {G : Hp} : ∀ (ns : List Int), DpAll K G (ns.map V.int) (ns.map PyData.int)
  | [] => .nil
  | n :: ns => .cons (.int n) (ints_dpA ns)
theorem dpA_bls {G : Hp} : ∀ {xs : List V} {bs : List Bool}, DpAll K G xs (bs.map PyData.bool) → xs = bs.map V.bl
  | _, [], h => by cases h; rfl
  | _, n :: ns, h => by
    cases h with
    | cons h1 h2 =>
      have e := D.bl h1
      subst e
      rw [List.map_cons, dpA_bls h2]
theorem bls_dpA {G : Hp} : ∀ (bs : List Bool), DpAll K G (bs.map V.bl) (bs.map PyData.bool)
  | [] => .nil
  | n :: ns => .cons (.bl n) (bls_dpA ns)
theorem dpA_strs {G : Hp} : ∀ {xs : List V} {ns : List Str}, DpAll K G xs (ns.map PyData.str) → xs = ns.map V.str
  | _, [], h => by cases h; rfl
  | _, n :: ns, h => by
    cases h with
    | cons h1 h2 =>
      have e := D.str h1
      subst e
      rw [List.map_cons, dpA_strs h2]
theorem strs_dpA {G : Hp} : ∀ (ns : List Str), DpAll K G (ns.map V.str) (ns.map PyData.str)
  | [] => .nil
  | n :: ns => .cons (.str n) (strs_dpA ns)
theorem dLst {G : Hp} {a : Addr} {xs : List V} {ds : List PyData} (h : G a = some (.lst xs)) (hs : DpAll K G xs ds) : D K (.list ds) (.ref a) G := Dp.lst (SqL.of h) hs
theorem dTup {G : Hp} {a : Addr} {xs : List V} {ds : List PyData} (h : G a = some (.tup xs)) (hs : DpAll K G xs ds) : D K (.tuple ds) (.ref a) G := Dp.tup (SqT.of h) hs
end

/-! ### what an expression evaluates to: it reads G, makes new things, leaves F -/
def Ev (te : TE) (σ : St) (G : Hp) (P : V → Hp → Prop) : Prop :=
  ∀ G1, Ex G G1 → ∀ F, Dj G1 F → ∀ Q : VK, (∀ v G2, Ex G1 G2 → Dj G2 F → P v G2 → Q v (un G2 F)) → te σ (un G1 F) Q
def EvT (tt : TT) (σ : St) (G : Hp) (b : Bool) : Prop :=
  ∀ G1, Ex G G1 → ∀ F, Dj G1 F → ∀ Q : Bool → Hp → Prop, (∀ G2, Ex G1 G2 → Dj G2 F → Q b (un G2 F)) → tt σ (un G1 F) Q
/-- the values meet the predicates -/
inductive Al : List (V → Hp → Prop) → List V → Hp → Prop
  | nil {G : Hp} : Al [] [] G
  | cons {P : V → Hp → Prop} {Ps : List (V → Hp → Prop)} {v : V} {vs : List V} {G : Hp} : P v G → Al Ps vs G → Al (P :: Ps) (v :: vs) G
def EvA (ta : TA) (σ : St) (G : Hp) (Ps : List (V → Hp → Prop)) : Prop :=
  ∀ G1, Ex G G1 → ∀ F, Dj G1 F → ∀ Q : List V → Hp → Prop, (∀ vs G2, Ex G1 G2 → Dj G2 F → Al Ps vs G2 → Q vs (un G2 F)) → ta σ (un G1 F) Q
section
variable {K : PySem.W.Frag} {σ : St} {G G' F : Hp} {ta tb te tx : TE} {t u : TT} {P P' P1 P2 : V → Hp → Prop} {r : R2} {v : V}
theorem Ev.ex (e : Ex G G') (h : Ev te σ G P) : Ev te σ G' P := fun G1 a F d Q q => h G1 (e.trans a) F d Q q
theorem EvT.ex {b : Bool} (e : Ex G G') (h : EvT t σ G b) : EvT t σ G' b := fun G1 a F d Q q => h G1 (e.trans a) F d Q q
theorem EvA.ex {ta : TA} {Ps : List (V → Hp → Prop)} (e : Ex G G') (h : EvA ta σ G Ps) : EvA ta σ G' Ps := fun G1 a F d Q q => h G1 (e.trans a) F d Q q
theorem Ev.imp (h : Ev te σ G P) (k : ∀ v G', Ex G G' → P v G' → P' v G') : Ev te σ G P' := fun G1 a F d Q q => h G1 a F d Q fun v G2 e2 d2 p => q v G2 e2 d2 (k v G2 (a.trans e2) p)
theorem Ev.of {d d' : PyData} (h : Ev te σ G (D K d)) (e : d = d') : Ev te σ G (D K d') := e ▸ h
theorem EvT.of {b b' : Bool} (h : EvT t σ G b) (e : b = b') : EvT t σ G b' := e ▸ h
/-- the whole heap is G and F: run it -/
theorem Ev.run (h : Ev te σ G P) (d : Dj G F) {Q : VK} (q : ∀ v G2, Ex G G2 → Dj G2 F → P v G2 → Q v (un G2 F)) : te σ (un G F) Q := h G (Ex.refl G) F d Q q
theorem EvT.run {b : Bool} (h : EvT t σ G b) (d : Dj G F) {Q : Bool → Hp → Prop} (q : ∀ G2, Ex G G2 → Dj G2 F → Q b (un G2 F)) : t σ (un G F) Q := h G (Ex.refl G) F d Q q
theorem EvA.run {ta : TA} {Ps : List (V → Hp → Prop)} (h : EvA ta σ G Ps) (d : Dj G F) {Q : List V → Hp → Prop} (q : ∀ vs G2, Ex G G2 → Dj G2 F → Al Ps vs G2 → Q vs (un G2 F)) : ta σ (un G F) Q := h G (Ex.refl G) F d Q q
theorem ev_var {i : Nat} (h : σ[i]? = some (some v)) (m : Mo P) (p : P v G) : Ev (tVar i) σ G P := fun G1 a F d Q q => ⟨v, h, q v G1 (Ex.refl _) d (m v G G1 a p)⟩
theorem ev_v {i : Nat} {d : PyData} (h : σ[i]? = some (some v)) (p : D K d v G) : Ev (tVar i) σ G (D K d) := ev_var h mo_D p
theorem ev_c (p : ∀ G1, P v G1) : Ev (tC v) σ G P := fun G1 a F d Q q => q v G1 (Ex.refl _) d (p G1)
theorem ev_int (i : Int) : Ev (tC (.int i)) σ G (D K (.int i)) := ev_c fun _ => dInt i
theorem ev_bl (b : Bool) : Ev (tC (.bl b)) σ G (D K (.bool b)) := ev_c fun _ => dBl b
theorem ev_str (x : Str) : Ev (tC (.str x)) σ G (D K (.str x)) := ev_c fun _ => dStr x
theorem ev_non : Ev (tC .non) σ G (D K .none) := ev_c fun _ => dNon
/-- two operands, by a rule on values -/
theorem ev_op (ha : Ev ta σ G P1) (hb : Ev tb σ G P2) (m : Mo P1) (hr : ∀ x y G1 F (Q : VK), Ex G G1 → Dj G1 F → P1 x G1 → P2 y G1 → (∀ v G2, Ex G1 G2 → Dj G2 F → P v G2 → Q v (un G2 F)) → r x y (un G1 F) Q) : Ev (tOp r ta tb) σ G P := fun G1 a F d Q q =>
  ha G1 a F d _ fun x G2 e2 d2 p1 => hb G2 (a.trans e2) F d2 _ fun y G3 e3 d3 p2 => hr x y G3 F Q ((a.trans e2).trans e3) d3 (m x G2 G3 e3 p1) p2 fun v G4 e4 d4 p => q v G4 ((e2.trans e3).trans e4) d4 p
theorem ev_un {rr : V → Hp → VK → Prop} (ha : Ev ta σ G P1) (hr : ∀ x G1 F (Q : VK), Ex G G1 → Dj G1 F → P1 x G1 → (∀ v G2, Ex G1 G2 → Dj G2 F → P v G2 → Q v (un G2 F)) → rr x (un G1 F) Q) : Ev (tUn rr ta) σ G P := fun G1 a F d Q q =>
  ha G1 a F d _ fun x G2 e2 d2 p1 => hr x G2 F Q (a.trans e2) d2 p1 fun v G4 e4 d4 p => q v G4 (e2.trans e4) d4 p
theorem Al.ex {Ps : List (V → Hp → Prop)} (e : Ex G G') (m : ∀ P ∈ Ps, Mo P) : ∀ {vs : List V}, Al Ps vs G → Al Ps vs G' := by
  intro vs h
  induction h with
  | nil => exact .nil
  | cons p _ ih => exact .cons (m _ List.mem_cons_self _ _ _ e p) (ih e fun P hP => m P (List.mem_cons_of_mem _ hP))
theorem ea_nil : EvA tNil σ G [] := fun G1 _ F d Q q => q [] G1 (Ex.refl _) d .nil
theorem ea_cons {tr : TA} {Ps : List (V → Hp → Prop)} (h : Ev ta σ G P) (m : Mo P) (hr : EvA tr σ G Ps) : EvA (tCons ta tr) σ G (P :: Ps) := fun G1 a F d Q q =>
  h G1 a F d _ fun x G2 e2 d2 p1 => hr G2 (a.trans e2) F d2 _ fun vs G3 e3 d3 p2 => q (x :: vs) G3 (e2.trans e3) d3 (.cons (m x G2 G3 e3 p1) p2)
/-- arguments that are data -/
theorem ea_d {tr : TA} {Ps : List (V → Hp → Prop)} {d : PyData} (h : Ev ta σ G (D K d)) (hr : EvA tr σ G Ps) : EvA (tCons ta tr) σ G (D K d :: Ps) := ea_cons h mo_D hr
theorem al1 {vs : List V} (h : Al [P] vs G) : ∃ x, vs = [x] ∧ P x G := by
  cases h with
  | cons p h => cases h; exact ⟨_, rfl, p⟩
theorem al2 {vs : List V} (h : Al [P1, P2] vs G) : ∃ x y, vs = [x, y] ∧ P1 x G ∧ P2 y G := by
  cases h with
  | cons p h =>
    obtain ⟨y, rfl, q⟩ := al1 h
    exact ⟨_, _, rfl, p, q⟩
theorem al3 {P3 : V → Hp → Prop} {vs : List V} (h : Al [P1, P2, P3] vs G) : ∃ x y z, vs = [x, y, z] ∧ P1 x G ∧ P2 y G ∧ P3 z G := by
  cases h with
  | cons p h =>
    obtain ⟨y, z, rfl, q⟩ := al2 h
    exact ⟨_, _, _, rfl, p, q⟩
theorem al4 {P3 P4 : V → Hp → Prop} {vs : List V} (h : Al [P1, P2, P3, P4] vs G) : ∃ x y z w, vs = [x, y, z, w] ∧ P1 x G ∧ P2 y G ∧ P3 z G ∧ P4 w G := by
  cases h with
  | cons p h =>
    obtain ⟨y, z, w, rfl, q⟩ := al3 h
    exact ⟨_, _, _, _, rfl, p, q⟩
theorem al5 {P3 P4 P5 : V → Hp → Prop} {vs : List V} (h : Al [P1, P2, P3, P4, P5] vs G) : ∃ x y z w u, vs = [x, y, z, w, u] ∧ P1 x G ∧ P2 y G ∧ P3 z G ∧ P4 w G ∧ P5 u G := by
  cases h with
  | cons p h =>
    obtain ⟨y, z, w, u, rfl, q⟩ := al4 h
    exact ⟨_, _, _, _, _, rfl, p, q⟩
/-- all arguments data -/
theorem al_dpA : ∀ {ds : List PyData} {vs : List V}, Al (ds.map (D K)) vs G → DpAll K G vs ds
  | [], _, h => by cases h; exact .nil
  | d :: ds, _, h => by
    cases h with
    | cons p h => exact .cons p (al_dpA h)

/-! ### arithmetic, comparisons, tests -/
theorem ev_I0 {g : Int → Int → V} {i j : Int} {d : PyData} (ha : Ev ta σ G (D K (.int i))) (hb : Ev tb σ G (D K (.int j))) (hg : ∀ G1, D K d (g i j) G1) : Ev (tOp (rI0 g) ta tb) σ G (D K d) :=
  ev_op ha hb mo_D fun x y G1 F Q e d p1 p2 q => ⟨i, j, p1.int, p2.int, q _ G1 (Ex.refl _) d (hg G1)⟩
theorem ev_I {C : Int → Int → Prop} {g : Int → Int → V} {i j : Int} {d : PyData} (ha : Ev ta σ G (D K (.int i))) (hb : Ev tb σ G (D K (.int j))) (hc : C i j) (hg : ∀ G1, D K d (g i j) G1) : Ev (tOp (rI C g) ta tb) σ G (D K d) :=
  ev_op ha hb mo_D fun x y G1 F Q e d p1 p2 q => ⟨i, j, p1.int, p2.int, hc, q _ G1 (Ex.refl _) d (hg G1)⟩
/-- the union of the plus rules -/
def rPlus (K : PySem.W.Frag) : R2 := fun x y H Q => rI0 (fun i j => .int (i + j)) x y H Q ∨ rCat x y H Q
theorem ev_add {i j : Int} (ha : Ev ta σ G (D K (.int i))) (hb : Ev tb σ G (D K (.int j))) : Ev (tOp (rI0 fun i j => .int (i + j)) ta tb) σ G (D K (.int (i + j))) := ev_I0 ha hb fun _ => dInt _
theorem ev_sub {i j : Int} (ha : Ev ta σ G (D K (.int i))) (hb : Ev tb σ G (D K (.int j))) : Ev (tOp (rI0 fun i j => .int (i - j)) ta tb) σ G (D K (.int (i - j))) := ev_I0 ha hb fun _ => dInt _
theorem ev_lt {i j : Int} (ha : Ev ta σ G (D K (.int i))) (hb : Ev tb σ G (D K (.int j))) : Ev (tOp (rI0 fun i j => .bl (decide (i < j))) ta tb) σ G (D K (.bool (decide (i < j)))) := ev_I0 ha hb fun _ => dBl _
theorem ev_le {i j : Int} (ha : Ev ta σ G (D K (.int i))) (hb : Ev tb σ G (D K (.int j))) : Ev (tOp (rI0 fun i j => .bl (decide (i ≤ j))) ta tb) σ G (D K (.bool (decide (i ≤ j)))) := ev_I0 ha hb fun _ => dBl _
theorem ev_gt {i j : Int} (ha : Ev ta σ G (D K (.int i))) (hb : Ev tb σ G (D K (.int j))) : Ev (tOp (rI0 fun i j => .bl (decide (j < i))) ta tb) σ G (D K (.bool (decide (j < i)))) := ev_I0 ha hb fun _ => dBl _
theorem ev_ge {i j : Int} (ha : Ev ta σ G (D K (.int i))) (hb : Ev tb σ G (D K (.int j))) : Ev (tOp (rI0 fun i j => .bl (decide (j ≤ i))) ta tb) σ G (D K (.bool (decide (j ≤ i)))) := ev_I0 ha hb fun _ => dBl _
theorem ev_eqD {d e : PyData} (ha : Ev ta σ G (D K d)) (hb : Ev tb σ G (D K e)) (s1 : SeqAt.shaped d = true) (s2 : SeqAt.shaped e = true) : Ev (tOp (rEqD K) ta tb) σ G (D K (.bool (PyData.eqv d e))) :=
  ev_op ha hb mo_D fun x y G1 F Q e' dj p1 p2 q => ⟨d, e, p1.ex ex_un, p2.ex ex_un, s1, s2, q _ G1 (Ex.refl _) dj (dBl _)⟩
theorem ev_neD {d e : PyData} (ha : Ev ta σ G (D K d)) (hb : Ev tb σ G (D K e)) (s1 : SeqAt.shaped d = true) (s2 : SeqAt.shaped e = true) : Ev (tOp (rNeD K) ta tb) σ G (D K (.bool (!PyData.eqv d e))) :=
  ev_op ha hb mo_D fun x y G1 F Q e' dj p1 p2 q => ⟨d, e, p1.ex ex_un, p2.ex ex_un, s1, s2, q _ G1 (Ex.refl _) dj (dBl _)⟩
theorem D.decN {d : PyData} {v : V} {G : Hp} (h : D K d v G) : decide (v = .non) = isN d := by
  have h : Dp K G v d := h
  cases h <;> rfl
/-- is None, is not None -/
theorem ev_isN {d : PyData} (ha : Ev ta σ G (D K d)) : Ev (tIsN ta) σ G (D K (.bool (isN d))) := fun G1 a F dj Q q =>
  ha G1 a F dj _ fun x G2 e2 d2 p1 => q _ G2 e2 d2 (by rw [p1.decN]; exact dBl _)
theorem ev_notN {d : PyData} (ha : Ev ta σ G (D K d)) : Ev (tNotN ta) σ G (D K (.bool (!isN d))) := fun G1 a F dj Q q =>
  ha G1 a F dj _ fun x G2 e2 d2 p1 => q _ G2 e2 d2 (by rw [p1.decN]; exact dBl _)
theorem et_test {b : Bool} (h : Ev te σ G (D K (.bool b))) : EvT (tTest te) σ G b := fun G1 a F dj Q q => h G1 a F dj _ fun x G2 e2 d2 p => ⟨b, p.bl, q G2 e2 d2⟩
theorem et_B {b : Bool} (h : Ev te σ G (D K (.bool b))) : EvT (tB te) σ G b := fun G1 a F dj Q q => h G1 a F dj _ fun x G2 e2 d2 p => ⟨b, p.bl, q G2 e2 d2⟩
theorem et_and {a b : Bool} (h1 : EvT t σ G a) (h2 : a = true → EvT u σ G b) : EvT (tAnd t u) σ G (a && b) := fun G1 e F dj Q q => h1 G1 e F dj _ fun G2 e2 d2 => by
  cases a with
  | true => exact h2 rfl G2 (e.trans e2) F d2 Q fun G3 e3 d3 => q G3 (e2.trans e3) d3
  | false => exact q G2 e2 d2
theorem et_or {a b : Bool} (h1 : EvT t σ G a) (h2 : a = false → EvT u σ G b) : EvT (tOr t u) σ G (a || b) := fun G1 e F dj Q q => h1 G1 e F dj _ fun G2 e2 d2 => by
  cases a with
  | true => exact q G2 e2 d2
  | false => exact h2 rfl G2 (e.trans e2) F d2 Q fun G3 e3 d3 => q G3 (e2.trans e3) d3
theorem et_not {a : Bool} (h1 : EvT t σ G a) : EvT (tNot t) σ G (!a) := fun G1 e F dj Q q => h1 G1 e F dj _ fun G2 e2 d2 => q G2 e2 d2
theorem ev_andV {a b : Bool} (h1 : Ev ta σ G (D K (.bool a))) (h2 : a = true → Ev tb σ G (D K (.bool b))) : Ev (tAndV ta tb) σ G (D K (.bool (a && b))) := fun G1 e F dj Q q => h1 G1 e F dj _ fun x G2 e2 d2 p => ⟨a, p.bl, by
  cases a with
  | true => exact h2 rfl G2 (e.trans e2) F d2 Q fun v G3 e3 d3 => q v G3 (e2.trans e3) d3
  | false => exact q _ G2 e2 d2 (dBl _)⟩
theorem ev_orV {a b : Bool} (h1 : Ev ta σ G (D K (.bool a))) (h2 : a = false → Ev tb σ G (D K (.bool b))) : Ev (tOrV ta tb) σ G (D K (.bool (a || b))) := fun G1 e F dj Q q => h1 G1 e F dj _ fun x G2 e2 d2 p => ⟨a, p.bl, by
  cases a with
  | true => exact q _ G2 e2 d2 (dBl _)
  | false => exact h2 rfl G2 (e.trans e2) F d2 Q fun v G3 e3 d3 => q v G3 (e2.trans e3) d3⟩
theorem ev_notV {a : Bool} (h1 : Ev ta σ G (D K (.bool a))) : Ev (tNotV ta) σ G (D K (.bool (!a))) := fun G1 e F dj Q q => h1 G1 e F dj _ fun x G2 e2 d2 p => ⟨a, p.bl, q _ G2 e2 d2 (dBl _)⟩
theorem ev_if {b : Bool} (h : EvT t σ G b) (h1 : b = true → Ev ta σ G P) (h2 : b = false → Ev tb σ G P) : Ev (tIf t ta tb) σ G P := fun G1 e F dj Q q => h G1 e F dj _ fun G2 e2 d2 => by
  cases b with
  | true => exact h1 rfl G2 (e.trans e2) F d2 Q fun v G3 e3 d3 => q v G3 (e2.trans e3) d3
  | false => exact h2 rfl G2 (e.trans e2) F d2 Q fun v G3 e3 d3 => q v G3 (e2.trans e3) d3

/-! ### new lists, new tuples; items, cuts, lengths -/
theorem ev_new {tt : TE} {o : HO} (h : ∀ H (Q : VK), (∀ p, H p = none → Q (.ref p) (upd H p o)) → tt σ H Q) (hp : ∀ p G1, Ex G G1 → G1 p = some o → P (.ref p) G1) : Ev tt σ G P := fun G1 a F dj Q q => h _ _ fun p hn => by
  obtain ⟨n1, n2⟩ := un_no hn
  rw [upd_l]
  exact q _ _ (Ex.new n1) (dj.newL n2) (hp p _ (a.trans (Ex.new n1)) upd_same)
theorem ev_tup {ta : TA} {ds : List PyData} (h : EvA ta σ G (ds.map (D K))) (hl : ds.length ≤ 1000) : Ev (tTup ta) σ G (D K (.tuple ds)) := fun G1 a F dj Q q => h G1 a F dj _ fun vs G2 e2 d2 al => by
  have al := al_dpA al
  refine ⟨Nat.le_of_lt (small1000 (by rw [dpA_len al]; exact hl)), fun p hn => ?_⟩
  obtain ⟨n1, n2⟩ := un_no hn
  rw [upd_l]
  exact q _ _ (e2.trans (Ex.new n1)) (d2.newL n2) (dTup upd_same (dpA_ex (Ex.new n1) _ _ al))
theorem ev_lst {ta : TA} {ds : List PyData} (h : EvA ta σ G (ds.map (D K))) (hl : ds.length ≤ 1000) : Ev (tLst ta) σ G (D K (.list ds)) := fun G1 a F dj Q q => h G1 a F dj _ fun vs G2 e2 d2 al => by
  have al := al_dpA al
  refine ⟨Nat.le_of_lt (small1000 (by rw [dpA_len al]; exact hl)), fun p hn => ?_⟩
  obtain ⟨n1, n2⟩ := un_no hn
  rw [upd_l]
  exact q _ _ (e2.trans (Ex.new n1)) (d2.newL n2) (dLst upd_same (dpA_ex (Ex.new n1) _ _ al))
theorem ev_ixT {ds : List PyData} {i : Nat} {d : PyData} (ha : Ev ta σ G (D K (.tuple ds))) (hb : Ev tb σ G (D K (.int i))) (hi : ds[i]? = some d) : Ev (tOp (rIx K) ta tb) σ G (D K d) :=
  ev_op ha hb mo_D fun x y G1 F Q e dj p1 p2 q => by
    obtain ⟨a, xs, rfl, h1, h2⟩ := p1.tup
    obtain rfl := p2.int
    obtain ⟨x, e1, e2⟩ := dpA_get h2 hi
    exact .inr (.inl ⟨a, xs, i, x, rfl, rfl, sqT_ex ex_un h1, atI_nat e1, q _ G1 (Ex.refl _) dj e2⟩)
theorem ev_ixL {ds : List PyData} {i : Nat} {d : PyData} (ha : Ev ta σ G (D K (.list ds))) (hb : Ev tb σ G (D K (.int i))) (hi : ds[i]? = some d) : Ev (tOp (rIx K) ta tb) σ G (D K d) :=
  ev_op ha hb mo_D fun x y G1 F Q e dj p1 p2 q => by
    obtain ⟨a, xs, rfl, h1, h2⟩ := p1.lst
    obtain rfl := p2.int
    obtain ⟨x, e1, e2⟩ := dpA_get h2 hi
    exact .inl ⟨a, xs, i, x, rfl, rfl, sqL_ex ex_un h1, atI_nat e1, q _ G1 (Ex.refl _) dj e2⟩
end
end Bf
set_option Elab.async false
set_option linter.all false
set_option maxRecDepth 100000
set_option maxHeartbeats 2000000
/-! Own layer, part 2: items, cuts, calls of built-ins. -/
namespace Bf
open PySem L2
section
variable {K : PySem.W.Frag} {σ : St} {G G' F : Hp} {ta tb te tx : TE} {t u : TT} {P P' P1 P2 : V → Hp → Prop} {r : R2} {v : V}

/-! ### plus -/
def rPlus3 (K : PySem.W.Frag) : R2 := fun x y H Q => rI0 (fun i j => .int (i + j)) x y H Q ∨ rCat x y H Q ∨ rCatA K x y H Q
theorem op_plus3 {X : Cx} : OpR X (binaryOp .Add) (rPlus3 X.K) := op_add.or (op_cat.or op_catA)
theorem ev_plusI {i j : Int} (ha : Ev ta σ G (D K (.int i))) (hb : Ev tb σ G (D K (.int j))) : Ev (tOp (rPlus3 K) ta tb) σ G (D K (.int (i + j))) :=
  ev_op ha hb mo_D fun x y G1 F Q e d p1 p2 q => .inl ⟨i, j, p1.int, p2.int, q _ G1 (Ex.refl _) d (dInt _)⟩
/-- a list that is tracked as such -/
def Lx (K : PySem.W.Frag) (ds : List PyData) : V → Hp → Prop := fun v G => ∃ a xs, v = .ref a ∧ G a = some (.lst xs) ∧ DpAll K G xs ds
theorem mo_Lx {ds : List PyData} : Mo (Lx K ds) := fun v G G' e ⟨a, xs, h1, h2, h3⟩ => ⟨a, xs, h1, e _ _ h2, dpA_ex e _ _ h3⟩
theorem Lx.d {ds : List PyData} (h : Lx K ds v G) : D K (.list ds) v G := by
  obtain ⟨a, xs, rfl, h2, h3⟩ := h
  exact dLst h2 h3
theorem ev_plusL {ds es : List PyData} (ha : Ev ta σ G (Lx K ds)) (hb : Ev tb σ G (Lx K es)) (hl : ds.length + es.length ≤ 1000) : Ev (tOp (rPlus3 K) ta tb) σ G (Lx K (ds ++ es)) :=
  ev_op ha hb mo_Lx fun x y G1 F Q e d p1 p2 q => by
    obtain ⟨a, xs, rfl, h1, h2⟩ := p1
    obtain ⟨b, ys, rfl, h3, h4⟩ := p2
    refine .inr (.inl ⟨a, b, xs, ys, rfl, rfl, un_l h1, un_l h3, Nat.le_of_lt (small1000 (by rw [dpA_len h2, dpA_len h4]; exact hl)), fun p hn => ?_⟩)
    obtain ⟨n1, n2⟩ := un_no hn
    rw [upd_l]
    exact q _ _ (Ex.new n1) (d.newL n2) ⟨p, _, rfl, upd_same, dpA_ex (Ex.new n1) _ _ (dpA_app h2 h4)⟩
theorem ev_plusT {ds es : List PyData} (ha : Ev ta σ G (D K (.tuple ds))) (hb : Ev tb σ G (D K (.tuple es))) (hl : ds.length + es.length ≤ 1000) : Ev (tOp (rPlus3 K) ta tb) σ G (D K (.tuple (ds ++ es))) :=
  ev_op ha hb mo_D fun x y G1 F Q e d p1 p2 q => by
    obtain ⟨a, xs, rfl, h1, h2⟩ := p1.tup
    obtain ⟨b, ys, rfl, h3, h4⟩ := p2.tup
    have l1 := dpA_len h2
    have l2 := dpA_len h4
    refine .inr (.inr ⟨a, b, xs, ys, rfl, rfl, sqT_ex ex_un h1, sqT_ex ex_un h3, Nat.le_of_lt (small1000 (by omega)), fun h0 => ?_, fun _ h0 => ?_, fun _ _ p hn => ?_⟩)
    · subst h0
      have e0 : ds = [] := List.eq_nil_of_length_eq_zero (by simpa using l1.symm)
      subst e0
      exact q _ G1 (Ex.refl _) d (Dp.tup h3 h4)
    · subst h0
      have e0 : es = [] := List.eq_nil_of_length_eq_zero (by simpa using l2.symm)
      subst e0
      rw [List.append_nil] at q
      exact q _ G1 (Ex.refl _) d (Dp.tup h1 h2)
    · obtain ⟨n1, n2⟩ := un_no hn
      rw [upd_l]
      exact q _ _ (Ex.new n1) (d.newL n2) (dTup upd_same (dpA_ex (Ex.new n1) _ _ (dpA_app h2 h4)))
/-- (x,) * k -/
theorem ev_rep1 {d : PyData} {k : Nat} (ha : Ev ta σ G (D K (.tuple [d]))) (hb : Ev tb σ G (D K (.int k))) (h2 : 2 ≤ k) (h3 : k ≤ 1000) : Ev (tOp (rRepT K) ta tb) σ G (D K (.tuple (List.replicate k d))) :=
  ev_op ha hb mo_D fun x y G1 F Q e dj p1 p2 q => by
    obtain ⟨a, xs, rfl, h1, hx⟩ := p1.tup
    obtain rfl := p2.int
    have l1 := dpA_len hx
    obtain ⟨z, rfl⟩ : ∃ z, xs = [z] := by
      match xs, l1 with
      | [z], _ => exact ⟨z, rfl⟩
    refine ⟨a, k, [z], rfl, rfl, sqT_ex ex_un h1, List.cons_ne_nil _ _, by omega, by omega, by show 1 ≤ 1000; omega, fun p hn => ?_⟩
    obtain ⟨n1, n2⟩ := un_no hn
    rw [upd_l]
    refine q _ _ (Ex.new n1) (dj.newL n2) (dTup upd_same (dpA_ex (Ex.new n1) _ _ ?_))
    rw [Int.toNat_natCast]
    have hz : Dp K G1 z d := by
      cases hx with
      | cons z _ => exact z
    have all : ∀ n : Nat, DpAll K G1 (List.replicate n [z]).flatten (List.replicate n d) := fun n => by
      induction n with
      | zero => exact .nil
      | succ n ih => exact .cons hz ih
    exact all k
/-! ### cuts -/
def rCut (K : PySem.W.Frag) : V → Option Int → Option Int → Hp → VK → Prop := fun x lo hi H Q => rSlL K x lo hi H Q ∨ rSlA K x lo hi H Q
theorem sl_cut {X : Cx} : SlR X (rCut X.K) := sl_list.or sl_tupA
def EvO (to : TO) (σ : St) (G : Hp) (o : Option Int) : Prop :=
  ∀ G1, Ex G G1 → ∀ F, Dj G1 F → ∀ Q : Option Int → Hp → Prop, (∀ G2, Ex G1 G2 → Dj G2 F → Q o (un G2 F)) → to σ (un G1 F) Q
theorem eo_none : EvO tNoPart σ G none := fun G1 a F d Q q => q G1 (Ex.refl _) d
theorem eo_some {i : Int} (h : Ev te σ G (D K (.int i))) : EvO (tPart te) σ G (some i) := fun G1 a F d Q q => h G1 a F d _ fun x G2 e2 d2 p => ⟨i, p.int, q G2 e2 d2⟩
def cutN {α : Type} (xs : List α) (lo hi : Option Int) : List α := (xs.drop (HT.sIx xs.length 0 lo)).take (HT.sIx xs.length xs.length hi - HT.sIx xs.length 0 lo)
theorem dpA_cut {xs : List V} {ds : List PyData} {lo hi : Option Int} (h : DpAll K G xs ds) : DpAll K G (cutV xs lo hi) (cutN ds lo hi) := by
  unfold cutV cutN
  rw [dpA_len h]
  exact dpA_take _ (dpA_drop _ h)
theorem ev_cutL {tl th : TO} {ds : List PyData} {lo hi : Option Int} (ha : Ev ta σ G (D K (.list ds))) (hl : EvO tl σ G lo) (hh : EvO th σ G hi) : Ev (tSl (rCut K) ta tl th) σ G (Lx K (cutN ds lo hi)) := fun G1 a F dj Q q =>
  ha G1 a F dj _ fun x G2 e2 d2 p => hl G2 (a.trans e2) F d2 _ fun G3 e3 d3 => hh G3 ((a.trans e2).trans e3) F d3 _ fun G4 e4 d4 => by
    obtain ⟨b, xs, rfl, h1, h2⟩ := (p.ex (e3.trans e4)).lst
    refine .inl ⟨b, xs, rfl, sqL_ex ex_un h1, fun p hn => ?_⟩
    obtain ⟨n1, n2⟩ := un_no hn
    rw [upd_l]
    exact q _ _ (((e2.trans e3).trans e4).trans (Ex.new n1)) (d4.newL n2) ⟨p, _, rfl, upd_same, dpA_ex (Ex.new n1) _ _ (dpA_cut h2)⟩
theorem ev_cutT {tl th : TO} {ds : List PyData} {lo hi : Option Int} (ha : Ev ta σ G (D K (.tuple ds))) (hl : EvO tl σ G lo) (hh : EvO th σ G hi) : Ev (tSl (rCut K) ta tl th) σ G (D K (.tuple (cutN ds lo hi))) := fun G1 a F dj Q q =>
  ha G1 a F dj _ fun x G2 e2 d2 p => hl G2 (a.trans e2) F d2 _ fun G3 e3 d3 => hh G3 ((a.trans e2).trans e3) F d3 _ fun G4 e4 d4 => by
    obtain ⟨b, xs, rfl, h1, h2⟩ := (p.ex (e3.trans e4)).tup
    refine .inr ⟨b, xs, rfl, sqT_ex ex_un h1, fun hw => ?_, fun _ p hn => ?_⟩
    · refine q _ _ ((e2.trans e3).trans e4) d4 (Dp.tup h1 ?_)
      have e : cutN ds lo hi = ds := by
        unfold cutN
        rw [← dpA_len h2, hw.1, hw.2, dpA_len h2]
        simp
      rw [e]
      exact h2
    · obtain ⟨n1, n2⟩ := un_no hn
      rw [upd_l]
      exact q _ _ (((e2.trans e3).trans e4).trans (Ex.new n1)) (d4.newL n2) (dTup upd_same (dpA_ex (Ex.new n1) _ _ (dpA_cut h2)))
theorem cut_from {α : Type} (xs : List α) (k : Nat) : cutN xs (some (k : Int)) none = xs.drop k := by
  unfold cutN
  rw [HT.sIx_nat, HT.sIx_none]
  rw [List.take_of_length_le (by rw [List.length_drop]; exact Nat.le_refl _)]
  by_cases h : k ≤ xs.length
  · rw [Nat.min_eq_left h]
  · rw [Nat.min_eq_right (by omega), List.drop_length, List.drop_of_length_le (by omega)]
theorem cut_to {α : Type} (xs : List α) (k : Nat) : cutN xs none (some (k : Int)) = xs.take k := by
  unfold cutN
  rw [HT.sIx_nat, HT.sIx_none, List.drop_zero, Nat.sub_zero]
  by_cases h : k ≤ xs.length
  · rw [Nat.min_eq_left h]
  · rw [Nat.min_eq_right (by omega), List.take_length, List.take_of_length_le (by omega)]

/-! ### calls of built-ins -/
def rLen (K : PySem.W.Frag) : List V → Hp → VK → Prop := fun xs H Q => (∃ p ys, xs = [.ref p] ∧ (SqL K H p ys ∨ SqT K H p ys) ∧ Q (.int ys.length) H) ∨ ∃ z, xs = [.str z] ∧ z.length ≤ sizeLine ∧ Q (.int z.length) H
theorem call_lenX {X : Cx} : CallR X (.builtin "len") (rLen X.K) := call_len_seq.or call_len_str
theorem ev_cb {rr : List V → Hp → VK → Prop} {tt : TA} {Ps : List (V → Hp → Prop)} (ha : EvA tt σ G Ps) (hr : ∀ vs G1 F (Q : VK), Ex G G1 → Dj G1 F → Al Ps vs G1 → (∀ v G2, Ex G1 G2 → Dj G2 F → P v G2 → Q v (un G2 F)) → rr vs (un G1 F) Q) : Ev (tCB rr tt) σ G P := fun G1 a F d Q q =>
  ha G1 a F d _ fun vs G2 e2 d2 p1 => hr vs G2 F Q (a.trans e2) d2 p1 fun v G4 e4 d4 p => q v G4 (e2.trans e4) d4 p
theorem ev_cb1 {rr : List V → Hp → VK → Prop} (ha : Ev ta σ G P1) (m : Mo P1) (hr : ∀ x G1 F (Q : VK), Ex G G1 → Dj G1 F → P1 x G1 → (∀ v G2, Ex G1 G2 → Dj G2 F → P v G2 → Q v (un G2 F)) → rr [x] (un G1 F) Q) : Ev (tCB rr (tCons ta tNil)) σ G P :=
  ev_cb (ea_cons ha m ea_nil) fun vs G1 F Q e d al q => by
    obtain ⟨x, rfl, p⟩ := al1 al
    exact hr x G1 F Q e d p q
theorem ev_lenL {ds : List PyData} (ha : Ev ta σ G (D K (.list ds))) : Ev (tCB (rLen K) (tCons ta tNil)) σ G (D K (.int ds.length)) := ev_cb1 ha mo_D fun x G1 F Q e d p q => by
  obtain ⟨a, xs, rfl, h1, h2⟩ := p.lst
  refine .inl ⟨a, xs, rfl, .inl (sqL_ex ex_un h1), ?_⟩
  rw [dpA_len h2]
  exact q _ _ (Ex.refl _) d (dInt _)
theorem ev_lenT {ds : List PyData} (ha : Ev ta σ G (D K (.tuple ds))) : Ev (tCB (rLen K) (tCons ta tNil)) σ G (D K (.int ds.length)) := ev_cb1 ha mo_D fun x G1 F Q e d p q => by
  obtain ⟨a, xs, rfl, h1, h2⟩ := p.tup
  refine .inl ⟨a, xs, rfl, .inr (sqT_ex ex_un h1), ?_⟩
  rw [dpA_len h2]
  exact q _ _ (Ex.refl _) d (dInt _)
theorem ev_lenS {z : Str} (ha : Ev ta σ G (D K (.str z))) (hz : z.length ≤ 1000) : Ev (tCB (rLen K) (tCons ta tNil)) σ G (D K (.int z.length)) := ev_cb1 ha mo_D fun x G1 F Q e d p q => by
  obtain rfl := p.str
  exact .inr ⟨z, rfl, Nat.le_of_lt (small1000 hz), q _ _ (Ex.refl _) d (dInt _)⟩
theorem ev_all {bs : List Bool} (ha : Ev ta σ G (D K (.list (bs.map PyData.bool)))) : Ev (tCB (rAll K) (tCons ta tNil)) σ G (D K (.bool (bs.all id))) := ev_cb1 ha mo_D fun x G1 F Q e d p q => by
  obtain ⟨a, xs, rfl, h1, h2⟩ := p.lst
  have e := dpA_bls h2
  subst e
  exact ⟨a, bs, rfl, sqL_ex ex_un h1, q _ _ (Ex.refl _) d (dBl _)⟩
theorem ev_sum {ns : List Int} (ha : Ev ta σ G (D K (.list (ns.map PyData.int)))) : Ev (tCB (rSum K) (tCons ta tNil)) σ G (D K (.int ns.sum)) := ev_cb1 ha mo_D fun x G1 F Q e d p q => by
  obtain ⟨a, xs, rfl, h1, h2⟩ := p.lst
  have e := dpA_ints h2
  subst e
  exact ⟨a, ns, rfl, sqL_ex ex_un h1, q _ _ (Ex.refl _) d (dInt _)⟩
def rInt1 : List V → Hp → VK → Prop := fun xs H Q => (∃ i, xs = [.int i] ∧ Q (.int i) H) ∨ ∃ k, xs = [.bl k] ∧ Q (.int (if k then 1 else 0)) H
theorem call_intX {X : Cx} : CallR X (.type "int") rInt1 := call_int1
theorem ev_intc {i : Int} (ha : Ev ta σ G (D K (.int i))) : Ev (tCB rInt1 (tCons ta tNil)) σ G (D K (.int i)) := ev_cb1 ha mo_D fun x G1 F Q e d p q => .inl ⟨i, by rw [p.int], q _ _ (Ex.refl _) d (dInt _)⟩
def rTupC (K : PySem.W.Frag) : List V → Hp → VK → Prop := fun xs H Q => ∃ p ys, xs = [.ref p] ∧ ((SqL K H p ys ∧ ∀ l, H l = none → Q (.ref l) (upd H l (.tup ys))) ∨ (SqT K H p ys ∧ Q (.ref p) H))
theorem call_tupX {X : Cx} : CallR X (.type "tuple") (rTupC X.K) := call_tuple_of
theorem ev_tupL {ds : List PyData} (ha : Ev ta σ G (D K (.list ds))) : Ev (tCB (rTupC K) (tCons ta tNil)) σ G (D K (.tuple ds)) := ev_cb1 ha mo_D fun x G1 F Q e d p q => by
  obtain ⟨a, xs, rfl, h1, h2⟩ := p.lst
  refine ⟨a, xs, rfl, .inl ⟨sqL_ex ex_un h1, fun l hn => ?_⟩⟩
  obtain ⟨n1, n2⟩ := un_no hn
  rw [upd_l]
  exact q _ _ (Ex.new n1) (d.newL n2) (dTup upd_same (dpA_ex (Ex.new n1) _ _ h2))
def rLstC (K : PySem.W.Frag) : List V → Hp → VK → Prop := fun xs H Q => ∃ p ys, xs = [.ref p] ∧ (SqL K H p ys ∨ SqT K H p ys) ∧ ∀ l, H l = none → Q (.ref l) (upd H l (.lst ys))
theorem call_lstX {X : Cx} : CallR X (.type "list") (rLstC X.K) := call_list_of
theorem ev_lstT {ds : List PyData} (ha : Ev ta σ G (D K (.tuple ds))) : Ev (tCB (rLstC K) (tCons ta tNil)) σ G (Lx K ds) := ev_cb1 ha mo_D fun x G1 F Q e d p q => by
  obtain ⟨a, xs, rfl, h1, h2⟩ := p.tup
  refine ⟨a, xs, rfl, .inr (sqT_ex ex_un h1), fun l hn => ?_⟩
  obtain ⟨n1, n2⟩ := un_no hn
  rw [upd_l]
  exact q _ _ (Ex.new n1) (d.newL n2) ⟨l, _, rfl, upd_same, dpA_ex (Ex.new n1) _ _ h2⟩
theorem ev_lst0 {ta : TA} {ds : List PyData} (h : EvA ta σ G (ds.map (D K))) (hl : ds.length ≤ 1000) : Ev (tLst ta) σ G (Lx K ds) := fun G1 a F dj Q q => h G1 a F dj _ fun vs G2 e2 d2 al => by
  have al := al_dpA al
  refine ⟨Nat.le_of_lt (small1000 (by rw [dpA_len al]; exact hl)), fun p hn => ?_⟩
  obtain ⟨n1, n2⟩ := un_no hn
  rw [upd_l]
  exact q _ _ (e2.trans (Ex.new n1)) (d2.newL n2) ⟨p, _, rfl, upd_same, dpA_ex (Ex.new n1) _ _ al⟩
/-- list(range(n)) -/
theorem ev_lstRg {n : Nat} (ha : Ev ta σ G (D K (.int n))) (hn : n ≤ 100000) : Ev (tLstRg (tRg1 ta)) σ G (Lx K ((List.range n).map fun i => PyData.int (i : Nat))) := fun G1 a F dj Q q => ha G1 a F dj _ fun x G2 e2 d2 p => by
  refine ⟨n, p.int, ⟨by omega, by omega, by omega, by omega, by omega⟩, fun l hl => ?_⟩
  obtain ⟨n1, n2⟩ := un_no hl
  rw [upd_l]
  refine q _ _ (e2.trans (Ex.new n1)) (d2.newL n2) ⟨l, _, rfl, upd_same, ?_⟩
  unfold rgV
  have e : (((n : Int) - 0).toNat) = n := by omega
  rw [e]
  have e2 : ((List.range n).map fun i => V.int (0 + (i : Nat))) = ((List.range n).map fun i => ((i : Nat) : Int)).map V.int := by
    rw [List.map_map]
    exact List.map_congr_left fun i _ => by simp
  have e3 : ((List.range n).map fun i => PyData.int (i : Nat)) = ((List.range n).map fun i => ((i : Nat) : Int)).map PyData.int := by
    rw [List.map_map]
    exact List.map_congr_left fun i _ => rfl
  rw [e2, e3]
  exact ints_dpA _
/-! ### in a tuple or list of flat data -/
def flatD : PyData → Bool
  | .none => true
  | .bool _ => true
  | .int _ => true
  | .str _ => true
  | _ => false
def vOf : PyData → V
  | .none => .non
  | .bool b => .bl b
  | .int i => .int i
  | .str x => .str x
  | _ => .non
theorem D.flat {d : PyData} (h : D K d v G) (f : flatD d = true) : v = vOf d ∧ flatV v = true := by
  have h : Dp K G v d := h
  cases h with
  | non => exact ⟨rfl, rfl⟩
  | bl b => exact ⟨rfl, rfl⟩
  | int i => exact ⟨rfl, rfl⟩
  | str x => exact ⟨rfl, rfl⟩
  | lst _ _ => exact absurd f (by simp [flatD])
  | tup _ _ => exact absurd f (by simp [flatD])
theorem dpA_flat : ∀ {ds : List PyData} {xs : List V}, DpAll K G xs ds → ds.all flatD = true → xs = ds.map vOf ∧ xs.all flatV = true
  | [], _, h, _ => by cases h; exact ⟨rfl, rfl⟩
  | d :: ds, _, h, f => by
    cases h with
    | cons h1 h2 =>
      rw [List.all_cons, Bool.and_eq_true] at f
      obtain ⟨e1, f1⟩ := D.flat h1 f.1
      obtain ⟨e2, f2⟩ := dpA_flat h2 f.2
      exact ⟨by rw [List.map_cons, ← e1, ← e2], by rw [List.all_cons, f1, f2]; rfl⟩
theorem ev_inT {d : PyData} {ds : List PyData} {neg : Bool} (ha : Ev ta σ G (D K d)) (hb : Ev tb σ G (D K (.tuple ds))) (f : flatD d = true) (fs : ds.all flatD = true) : Ev (tOp (rIn K neg) ta tb) σ G (D K (.bool (if neg then !inV (vOf d) (ds.map vOf) else inV (vOf d) (ds.map vOf)))) :=
  ev_op ha hb mo_D fun x y G1 F Q e dj p1 p2 q => by
    obtain ⟨a, xs, rfl, h1, h2⟩ := p2.tup
    obtain ⟨rfl, f1⟩ := p1.flat f
    obtain ⟨rfl, f2⟩ := dpA_flat h2 fs
    exact ⟨a, _, rfl, .inr (sqT_ex ex_un h1), f1, f2, q _ _ (Ex.refl _) dj (dBl _)⟩
theorem ev_inL {d : PyData} {ds : List PyData} {neg : Bool} (ha : Ev ta σ G (D K d)) (hb : Ev tb σ G (D K (.list ds))) (f : flatD d = true) (fs : ds.all flatD = true) : Ev (tOp (rIn K neg) ta tb) σ G (D K (.bool (if neg then !inV (vOf d) (ds.map vOf) else inV (vOf d) (ds.map vOf)))) :=
  ev_op ha hb mo_D fun x y G1 F Q e dj p1 p2 q => by
    obtain ⟨a, xs, rfl, h1, h2⟩ := p2.lst
    obtain ⟨rfl, f1⟩ := p1.flat f
    obtain ⟨rfl, f2⟩ := dpA_flat h2 fs
    exact ⟨a, _, rfl, .inl (sqL_ex ex_un h1), f1, f2, q _ _ (Ex.refl _) dj (dBl _)⟩
/-! ### calls of defs: a promise over G and F -/
/-- A vs G P: with the arguments vs in G the def hands back a value with P -/
def Fn (A : List V → Hp → (V → Hp → Prop) → Prop) : Sp := fun vs H Q _ => ∃ (G F : Hp) (P : V → Hp → Prop), H = un G F ∧ Dj G F ∧ A vs G P ∧ ∀ v G', Ex G G' → Dj G' F → P v G' → Q v (un G' F)
theorem ev_call {A : List V → Hp → (V → Hp → Prop) → Prop} {tt : TA} {Ps : List (V → Hp → Prop)} {E : XK} (ha : EvA tt σ G Ps) (h : ∀ vs G1, Ex G G1 → Al Ps vs G1 → A vs G1 P) : Ev (tCall (Fn A) [] E tt) σ G P := fun G1 a F dj Q q =>
  ha G1 a F dj _ fun vs G2 e2 d2 al => ⟨G2, F, P, rfl, d2, by rw [List.append_nil]; exact h vs G2 (a.trans e2) al, fun v G3 e3 d3 p => q v G3 (e2.trans e3) d3 p⟩
/-- the arguments' predicates fix the promise -/
def Args (R : List (V → Hp → Prop) → (V → Hp → Prop) → Prop) : List V → Hp → (V → Hp → Prop) → Prop := fun vs G P => ∃ Ps, R Ps P ∧ Al Ps vs G
theorem ev_callA {R : List (V → Hp → Prop) → (V → Hp → Prop) → Prop} {tt : TA} {Ps : List (V → Hp → Prop)} {E : XK} (ha : EvA tt σ G Ps) (h : R Ps P) : Ev (tCall (Fn (Args R)) [] E tt) σ G P :=
  ev_call ha fun vs G1 _ al => ⟨Ps, h, al⟩
end
end Bf
set_option Elab.async false
set_option linter.all false
set_option maxRecDepth 100000
set_option maxHeartbeats 2000000
/-! Own layer, part 3: what is walked, statements, loops, comprehensions. -/
namespace Bf
open PySem L2
section
variable {α β : Type}
/-- J walks the data xs (R a x G: the turn at a hands out x) while the data G2 stand -/
structure Src (J : It) (G2 : Hp) (xs : List α) (R : α → V → Hp → Prop) : Prop where
  goes : ∀ i G F, i < xs.length → Ex G2 G → Dj G F → J.go i (un G F)
  stops : ∀ G F, Ex G2 G → Dj G F → J.stop xs.length (un G F)
  yields : ∀ i a G F x H', xs[i]? = some a → Ex G2 G → Dj G F → J.yld i (un G F) x H' → ∃ G', Ex G G' ∧ Dj G' F ∧ H' = un G' F ∧ R a x G'
def EvI (wi : TI) (σ : St) (G : Hp) (xs : List α) (R : α → V → Hp → Prop) : Prop :=
  ∀ G1, Ex G G1 → ∀ F, Dj G1 F → ∀ Q : It → Hp → Prop, (∀ J G2, Ex G1 G2 → Dj G2 F → Src J G2 xs R → Q J (un G2 F)) → wi σ (un G1 F) Q
variable {K : PySem.W.Frag} {σ : St} {G G' F : Hp} {ta tb te tx tl : TE} {t u : TT} {P P' P1 P2 : V → Hp → Prop} {r : R2} {v : V}
theorem EvI.ex {wi : TI} {xs : List α} {R : α → V → Hp → Prop} (e : Ex G G') (h : EvI wi σ G xs R) : EvI wi σ G' xs R := fun G1 a F d Q q => h G1 (e.trans a) F d Q q
theorem dpA_map {xs : List V} {as : List α} {enc : α → PyData} {i : Nat} {a : α} (h : DpAll K G xs (as.map enc)) (ha : as[i]? = some a) : ∃ x, xs[i]? = some x ∧ D K (enc a) x G := dpA_get h (by rw [List.getElem?_map, ha]; rfl)
theorem src_list {b : Addr} {xs : List V} {as : List α} {enc : α → PyData} (h : SqL K G b xs) (hd : DpAll K G xs (as.map enc)) : Src (Itl K b) G as (fun a => D K (enc a)) where
  goes := fun i G1 F hi e dj => by
    obtain ⟨x, e1, _⟩ := dpA_map hd (List.getElem?_eq_getElem hi)
    exact ⟨xs, x, sqL_ex (e.trans ex_un) h, e1⟩
  stops := fun G1 F e dj => ⟨xs, sqL_ex (e.trans ex_un) h, by rw [dpA_len hd, List.length_map]; exact Nat.le_refl _⟩
  yields := fun i a G1 F x H' ha e dj y => by
    obtain ⟨rfl, y⟩ := y
    obtain ⟨z, e1, e2⟩ := dpA_map hd ha
    have e3 := y xs (sqL_ex (e.trans ex_un) h)
    rw [e1] at e3
    cases e3
    exact ⟨G1, Ex.refl _, dj, rfl, e2.ex e⟩
theorem src_tup {b : Addr} {xs : List V} {as : List α} {enc : α → PyData} (h : SqT K G b xs) (hd : DpAll K G xs (as.map enc)) : Src (Itt K b) G as (fun a => D K (enc a)) where
  goes := fun i G1 F hi e dj => by
    obtain ⟨x, e1, _⟩ := dpA_map hd (List.getElem?_eq_getElem hi)
    exact ⟨xs, x, sqT_ex (e.trans ex_un) h, e1⟩
  stops := fun G1 F e dj => ⟨xs, sqT_ex (e.trans ex_un) h, by rw [dpA_len hd, List.length_map]; exact Nat.le_refl _⟩
  yields := fun i a G1 F x H' ha e dj y => by
    obtain ⟨rfl, y⟩ := y
    obtain ⟨z, e1, e2⟩ := dpA_map hd ha
    have e3 := y xs (sqT_ex (e.trans ex_un) h)
    rw [e1] at e3
    cases e3
    exact ⟨G1, Ex.refl _, dj, rfl, e2.ex e⟩
theorem ei_list {as : List α} {enc : α → PyData} (h : Ev tl σ G (D K (.list (as.map enc)))) : EvI (iList K tl) σ G as (fun a => D K (enc a)) := fun G1 a F dj Q q => h G1 a F dj _ fun v G2 e2 d2 p => by
  obtain ⟨b, xs, rfl, h1, h2⟩ := p.lst
  exact ⟨b, rfl, ⟨xs, sqL_ex ex_un h1⟩, q _ G2 e2 d2 (src_list h1 h2)⟩
theorem ei_tup {as : List α} {enc : α → PyData} (h : Ev tl σ G (D K (.tuple (as.map enc)))) : EvI (iTup K tl) σ G as (fun a => D K (enc a)) := fun G1 a F dj Q q => h G1 a F dj _ fun v G2 e2 d2 p => by
  obtain ⟨b, xs, rfl, h1, h2⟩ := p.tup
  exact ⟨b, rfl, ⟨xs, sqT_ex ex_un h1⟩, q _ G2 e2 d2 (src_tup h1 h2)⟩
theorem src_range {lo : Int} {n : Nat} : Src (Itr lo n) G (List.range n) (fun i => D K (.int (lo + (i : Nat)))) where
  goes := fun i G1 F hi e dj => by rw [List.length_range] at hi; exact hi
  stops := fun G1 F e dj => by rw [List.length_range]; exact Nat.le_refl _
  yields := fun i a G1 F x H' ha e dj y => by
    obtain ⟨rfl, rfl⟩ := y
    have e1 : a = i := by
      rw [List.getElem?_eq_some_iff] at ha
      obtain ⟨_, ha⟩ := ha
      rw [List.getElem_range] at ha
      exact ha.symm
    subst e1
    exact ⟨G1, Ex.refl _, dj, rfl, dInt _⟩
theorem ei_range1 {n : Nat} (h : Ev te σ G (D K (.int n))) (hn : n ≤ 100000) : EvI (iRng1 (tCons te tNil)) σ G (List.range n) (fun i => D K (.int (i : Nat))) := fun G1 a F dj Q q => h G1 a F dj _ fun v G2 e2 d2 p => by
  refine ⟨n, by rw [p.int], by omega, by omega, ?_⟩
  have e : ((n : Int)).toNat = n := Int.toNat_natCast n
  rw [e]
  have s := src_range (K := K) (G := G2) (lo := 0) (n := n)
  simp only [Int.zero_add] at s
  exact q _ G2 e2 d2 s
theorem src_rangeC {lo c : Int} {n : Nat} : Src (Itc lo c n) G (List.range n) (fun i => D K (.int (lo + (i : Nat) * c))) where
  goes := fun i G1 F hi e dj => by rw [List.length_range] at hi; exact hi
  stops := fun G1 F e dj => by rw [List.length_range]; exact Nat.le_refl _
  yields := fun i a G1 F x H' ha e dj y => by
    obtain ⟨rfl, rfl⟩ := y
    have e1 : a = i := by
      rw [List.getElem?_eq_some_iff] at ha
      obtain ⟨_, ha⟩ := ha
      rw [List.getElem_range] at ha
      exact ha.symm
    subst e1
    exact ⟨G1, Ex.refl _, dj, rfl, dInt _⟩
theorem src_str {z : Str} : Src (Its z) G z.cps.toList (fun c => D K (.str ⟨#[c]⟩)) where
  goes := fun i G1 F hi e dj => by
    show i < z.cps.size
    simpa using hi
  stops := fun G1 F e dj => by show z.cps.size ≤ _; simp
  yields := fun i a G1 F x H' ha e dj y => by
    obtain ⟨rfl, c, hc, rfl⟩ := y
    have e1 : a = c := by
      rw [Array.getElem?_toList, hc] at ha
      exact (Option.some.inj ha).symm
    subst e1
    exact ⟨G1, Ex.refl _, dj, rfl, dStr _⟩
theorem ei_str {z : Str} (h : Ev te σ G (D K (.str z))) : EvI (iStr te) σ G z.cps.toList (fun c => D K (.str ⟨#[c]⟩)) := fun G1 a F dj Q q => h G1 a F dj _ fun v G2 e2 d2 p => ⟨z, p.str, q _ G2 e2 d2 src_str⟩
theorem zip_at {as : List α} {bs : List β} {i : Nat} {a : α} {b : β} (h : (as.zip bs)[i]? = some (a, b)) : as[i]? = some a ∧ bs[i]? = some b := by
  rw [List.getElem?_zip_eq_some] at h
  exact h
/-- zip of two tuples -/
theorem src_zipT {p q : Addr} {xs ys : List V} {as : List α} {bs : List β} {ea : α → PyData} {eb : β → PyData} (h1 : SqT K G p xs) (h2 : SqT K G q ys) (d1 : DpAll K G xs (as.map ea)) (d2 : DpAll K G ys (bs.map eb)) :
    Src (RZ.ItzT K p q) G (as.zip bs) (fun ab => D K (.tuple [ea ab.1, eb ab.2])) where
  goes := fun i G1 F hi e dj => by
    rw [List.length_zip] at hi
    have i1 : i < as.length := by omega
    have i2 : i < bs.length := by omega
    obtain ⟨x, e1, _⟩ := dpA_map d1 (List.getElem?_eq_getElem i1)
    obtain ⟨y, e2, _⟩ := dpA_map d2 (List.getElem?_eq_getElem i2)
    exact ⟨xs, ys, x, y, sqT_ex (e.trans ex_un) h1, sqT_ex (e.trans ex_un) h2, e1, e2⟩
  stops := fun G1 F e dj => by
    refine ⟨xs, ys, sqT_ex (e.trans ex_un) h1, sqT_ex (e.trans ex_un) h2, ?_⟩
    rw [dpA_len d1, dpA_len d2, List.length_map, List.length_map, List.length_zip]
    omega
  yields := fun i ab G1 F x H' ha e dj y => by
    obtain ⟨a, b⟩ := ab
    obtain ⟨ha, hb⟩ := zip_at ha
    obtain ⟨T, x1, x2, rfl, hT, rfl, f1, f2⟩ := y
    obtain ⟨z1, e1, e2⟩ := dpA_map d1 ha
    obtain ⟨z2, e3, e4⟩ := dpA_map d2 hb
    have g1 := f1 xs (sqT_ex (e.trans ex_un) h1)
    have g2 := f2 ys (sqT_ex (e.trans ex_un) h2)
    rw [e1] at g1
    rw [e3] at g2
    cases g1
    cases g2
    obtain ⟨n1, n2⟩ := un_no hT
    exact ⟨_, Ex.new n1, dj.newL n2, upd_l, dTup upd_same (.cons ((e2.ex e).ex (Ex.new n1)) (.cons ((e4.ex e).ex (Ex.new n1)) .nil))⟩
theorem ei_zipT {as : List α} {bs : List β} {ea : α → PyData} {eb : β → PyData} (h1 : Ev ta σ G (D K (.tuple (as.map ea)))) (h2 : Ev tb σ G (D K (.tuple (bs.map eb)))) : EvI (RZ.iZipA K (tCons ta (tCons tb tNil))) σ G (as.zip bs) (fun ab => D K (.tuple [ea ab.1, eb ab.2])) := fun G1 a F dj Q q =>
  h1 G1 a F dj _ fun v G2 e2 d2 p1 => h2 G2 (a.trans e2) F d2 _ fun w G3 e3 d3 p2 => by
    obtain ⟨b, xs, rfl, g1, g2⟩ := (p1.ex e3).tup
    obtain ⟨c, ys, rfl, g3, g4⟩ := p2.tup
    exact ⟨b, c, xs, ys, rfl, .inr ⟨sqT_ex ex_un g1, sqT_ex ex_un g3, q _ G3 (e2.trans e3) d3 (src_zipT g1 g3 g2 g4)⟩⟩
/-! ### targets -/
def EvG (g : TG) (x : V) (σ : St) (G : Hp) (R : St → Hp → Prop) : Prop := ∀ G1, Ex G G1 → ∀ F, Dj G1 F → ∀ Q : St → Hp → Prop, (∀ σ2, R σ2 G1 → Q σ2 (un G1 F)) → g x σ (un G1 F) Q
theorem eg_name {j : Nat} {x : V} : EvG (gName j) x σ G (fun σ2 _ => σ2 = σ.set j (some x)) := fun G1 a F dj Q q => q _ rfl
theorem eg_pair {i j : Nat} {x : V} {d1 d2 : PyData} (h : D K (.tuple [d1, d2]) x G) : EvG (gTup K 2 (gCons (gName i) (gCons (gName j) gNil))) x σ G (fun σ2 G1 => ∃ v w, σ2 = (σ.set i (some v)).set j (some w) ∧ D K d1 v G1 ∧ D K d2 w G1) := fun G1 a F dj Q q => by
  obtain ⟨b, xs, rfl, h1, h2⟩ := (h.ex a).tup
  cases h2 with
  | cons p1 h2 =>
    cases h2 with
    | cons p2 h2 =>
      cases h2
      exact ⟨b, _, rfl, sqT_ex ex_un h1, rfl, _, _, rfl, _, _, rfl, rfl, q _ ⟨_, _, rfl, p1, p2⟩⟩
theorem eg_triple {i j k : Nat} {x : V} {d1 d2 d3 : PyData} (h : D K (.tuple [d1, d2, d3]) x G) : EvG (gTup K 3 (gCons (gName i) (gCons (gName j) (gCons (gName k) gNil)))) x σ G (fun σ2 G1 => ∃ v w z, σ2 = ((σ.set i (some v)).set j (some w)).set k (some z) ∧ D K d1 v G1 ∧ D K d2 w G1 ∧ D K d3 z G1) := fun G1 a F dj Q q => by
  obtain ⟨b, xs, rfl, h1, h2⟩ := (h.ex a).tup
  cases h2 with
  | cons p1 h2 =>
    cases h2 with
    | cons p2 h2 =>
      cases h2 with
      | cons p3 h2 =>
        cases h2
        exact ⟨b, _, rfl, sqT_ex ex_un h1, rfl, _, _, rfl, _, _, rfl, _, _, rfl, rfl, q _ ⟨_, _, _, rfl, p1, p2, p3⟩⟩
/-! ### statements -/
variable {E : Ends} {tz ty tw : TS} {g : TG}
theorem s_set {i : Nat} (dj : Dj G F) (h : Ev te σ G P) (k : ∀ v G', Ex G G' → Dj G' F → P v G' → tz E (σ.set i (some v)) (un G' F)) : tSeq (tAsg te (gName i)) tz E σ (un G F) := h.run dj k
theorem s_tgt (dj : Dj G F) (h : Ev te σ G P) (k : ∀ v G', Ex G G' → Dj G' F → P v G' → g v σ (un G' F) (tz E)) : tSeq (tAsg te g) tz E σ (un G F) := h.run dj k
theorem s_ret (dj : Dj G F) (h : Ev te σ G P) (k : ∀ v G', Ex G G' → Dj G' F → P v G' → E.rt v (un G' F)) : tSeq (tRet te) tz E σ (un G F) := h.run dj k
theorem s_drop (dj : Dj G F) (h : Ev te σ G P) (k : ∀ v G', Ex G G' → Dj G' F → P v G' → tz E σ (un G' F)) : tSeq (tDrop te) tz E σ (un G F) := h.run dj k
theorem s_if {b : Bool} (dj : Dj G F) (h : EvT t σ G b) (h1 : b = true → ∀ G', Ex G G' → Dj G' F → ty { E with nx := tz E } σ (un G' F)) (h2 : b = false → ∀ G', Ex G G' → Dj G' F → tw { E with nx := tz E } σ (un G' F)) : tSeq (tIfS t ty tw) tz E σ (un G F) := h.run dj fun G' e d => by
  cases b with
  | true => exact h1 rfl G' e d
  | false => exact h2 rfl G' e d
theorem s_yes (dj : Dj G F) (h : EvT t σ G true) (h1 : ∀ G', Ex G G' → Dj G' F → ty { E with nx := tz E } σ (un G' F)) : tSeq (tIfS t ty tw) tz E σ (un G F) := s_if dj h (fun _ => h1) fun q => nomatch q
theorem s_no (dj : Dj G F) (h : EvT t σ G false) (h1 : ∀ G', Ex G G' → Dj G' F → tw { E with nx := tz E } σ (un G' F)) : tSeq (tIfS t ty tw) tz E σ (un G F) := s_if dj h (fun q => nomatch q) fun _ => h1
theorem s_par {i j : Nat} {a b : TE} (dj : Dj G F) (h1 : Ev a σ G P1) (m : Mo P1) (h2 : ∀ G', Ex G G' → Ev b σ G' P2) (k : ∀ v w G', Ex G G' → Dj G' F → P1 v G' → P2 w G' → tz E ((σ.set i (some v)).set j (some w)) (un G' F)) : tSeq (tPar i j (tCons a (tCons b tNil))) tz E σ (un G F) :=
  h1.run dj fun v G2 e2 d2 p1 => (h2 G2 e2).run d2 fun w G3 e3 d3 p2 => ⟨v, w, rfl, k v w G3 (e2.trans e3) d3 (m _ _ _ e3 p1) p2⟩
/-- a new list of one's own -/
theorem s_new {i : Nat} (dj : Dj G F) (k : ∀ p, G p = none → F p = none → Dj G (upd F p (.lst [])) → tz E (σ.set i (some (.ref p))) (un G (upd F p (.lst [])))) : tSeq (tAsg (tLst tNil) (gName i)) tz E σ (un G F) :=
  ⟨Nat.zero_le _, fun p hn => by
    obtain ⟨n1, n2⟩ := un_no hn
    show tz E (σ.set i (some (.ref p))) (upd (un G F) p (.lst []))
    rw [upd_r n1]
    exact k p n1 n2 (dj.newR n1)⟩
/-- l.append(e), l one's own -/
theorem s_app {l : Addr} {xs : List V} (dj : Dj G F) (hl : F l = some (.lst xs)) (ha : σ[i]? = some (some (.ref l))) (hz : xs.length ≤ 1000) (h : Ev te σ G P) (k : ∀ v G', Ex G G' → Dj G' (upd F l (.lst (xs ++ [v]))) → P v G' → tz E σ (un G' (upd F l (.lst (xs ++ [v]))))) :
    tSeq (tDrop (tBM K "list" rAppend (tVar i) (tCons te tNil))) tz E σ (un G F) :=
  ⟨_, ha, .inl ⟨rfl, xs, SqL.of (un_r dj hl)⟩, h.run dj fun v G2 e2 d2 p => ⟨l, xs, v, rfl, rfl, un_r d2 hl, small1000 hz, by
    have n1 : G2 l = none := d2.n hl
    show tz E σ (upd (un G2 F) l (.lst (xs ++ [v])))
    rw [upd_r n1]
    exact k v G2 e2 (d2.newR n1) p⟩⟩
/-- l.extend(e), l one's own, e a new list -/
theorem s_ext {l : Addr} {xs : List V} {ds : List PyData} (dj : Dj G F) (hl : F l = some (.lst xs)) (ha : σ[i]? = some (some (.ref l))) (hz : xs.length + ds.length ≤ 1000) (h : Ev te σ G (Lx K ds)) (k : ∀ ys G', Ex G G' → Dj G' (upd F l (.lst (xs ++ ys))) → DpAll K G' ys ds → tz E σ (un G' (upd F l (.lst (xs ++ ys))))) :
    tSeq (tDrop (tBM K "list" rExtend (tVar i) (tCons te tNil))) tz E σ (un G F) :=
  ⟨_, ha, .inl ⟨rfl, xs, SqL.of (un_r dj hl)⟩, h.run dj fun v G2 e2 d2 p => by
    obtain ⟨b, ys, rfl, h1, h2⟩ := p
    refine ⟨l, b, xs, ys, rfl, rfl, un_r d2 hl, un_l h1, Nat.le_of_lt (small1000 (by rw [dpA_len h2]; exact hz)), ?_⟩
    have n1 : G2 l = none := d2.n hl
    show tz E σ (upd (un G2 F) l (.lst (xs ++ ys)))
    rw [upd_r n1]
    exact k ys G2 e2 (d2.newR n1) h2⟩
theorem s_nx {H : Hp} (h : E.nx σ H) : tNext E σ H := h
/-! ### loops -/
def Iv (G1 : Hp) (Jv : St → Hp → Hp → Prop) : St → Hp → Prop := fun σ H => ∃ G F, H = un G F ∧ Ex G1 G ∧ Dj G F ∧ Jv σ G F
theorem Iv.mk {G1 : Hp} {Jv : St → Hp → Hp → Prop} (e : Ex G1 G) (d : Dj G F) (j : Jv σ G F) : Iv G1 Jv σ (un G F) := ⟨G, F, rfl, e, d, j⟩
theorem s_iv {G1 : Hp} {Jv : St → Hp → Hp → Prop} (e : Ex G1 G) (d : Dj G F) (hn : E.nx = Iv G1 Jv) (j : Jv σ G F) : tNext E σ (un G F) := by
  show E.nx σ (un G F)
  rw [hn]
  exact Iv.mk e d j
theorem s_for {wi : TI} {xs : List α} {R : α → V → Hp → Prop} (dj : Dj G F) (h : EvI wi σ G xs R) (k : ∀ G1, Ex G G1 → Dj G1 F → ∃ Jv : Nat → St → Hp → Hp → Prop, Jv 0 σ G1 F ∧
      (∀ i a x σ' G' F', xs[i]? = some a → Ex G1 G' → Dj G' F' → R a x G' → Jv i σ' G' F' → g x σ' (un G' F') fun σ2 H2 => ty { E with nx := Iv G1 (Jv (i + 1)), ct := Iv G1 (Jv (i + 1)), bk := tz E } σ2 H2) ∧
      (∀ i σ' G0 G' F', Ex G0 G' → Jv i σ' G0 F' → Jv i σ' G' F') ∧
      ∀ σ' G' F', Ex G1 G' → Dj G' F' → Jv xs.length σ' G' F' → tz E σ' (un G' F')) : tSeq (tFor wi g ty) tz E σ (un G F) :=
  h G (Ex.refl _) F dj _ fun J G1 e1 d1 S => by
    obtain ⟨Jv, h0, hs, hm, hd⟩ := k G1 e1 d1
    refine ⟨fun i m σ H => m = xs.length - i ∧ i ≤ xs.length ∧ Iv G1 (Jv i) σ H, ⟨xs.length, by simp, Nat.zero_le _, Iv.mk (Ex.refl _) d1 h0⟩, ?_⟩
    rintro i m σ H ⟨rfl, hi, G', F', rfl, e', d', j⟩
    by_cases hlt : i < xs.length
    · refine .inr ⟨S.goes i G' F' hlt e' d', Iv G1 (Jv (i + 1)), fun σ2 H2 p => ⟨xs.length - (i + 1), by omega, rfl, hlt, p⟩, fun x H' y => ?_⟩
      have ha := List.getElem?_eq_getElem hlt
      obtain ⟨G2, e2, d2, rfl, r⟩ := S.yields i _ G' F' x H' ha e' d' y
      have j2 := hm i σ G' G2 F' e2 j
      exact hs i _ x σ G2 F' ha (e'.trans e2) d2 r j2
    · have e : i = xs.length := by omega
      subst e
      exact .inl ⟨S.stops G' F' e' d', hd σ G' F' e' d' j⟩
theorem s_while (dj : Dj G F) (Jv : Nat → St → Hp → Hp → Prop) (m0 : Nat) (h0 : Jv m0 σ G F)
    (hs : ∀ m σ' G' F', Ex G G' → Dj G' F' → Jv m σ' G' F' → t σ' (un G' F') fun b H1 => if b = true then ∃ m', m' < m ∧ ty { E with nx := Iv G (Jv m'), ct := Iv G (Jv m'), bk := tz E } σ' H1 else tz E σ' H1)
    (mono : ∀ σ H Q Q', (∀ b H1, Q b H1 → Q' b H1) → t σ H Q → t σ H Q') : tSeq (tWhile t ty) tz E σ (un G F) := by
  refine ⟨fun m σ H => Iv G (Jv m) σ H, ⟨m0, Iv.mk (Ex.refl _) dj h0⟩, ?_⟩
  rintro m σ H ⟨G', F', rfl, e', d', j⟩
  refine mono _ _ _ _ (fun b H1 q => ?_) (hs m σ G' F' e' d' j)
  cases b with
  | true =>
    obtain ⟨m', hm, q⟩ := q
    exact ⟨Iv G (Jv m'), fun σ2 H2 p => ⟨m', hm, p⟩, q⟩
  | false => exact q
/-- a while whose test reads alone -/
theorem s_whileT (dj : Dj G F) (Jv : Nat → St → Hp → Hp → Prop) (m0 : Nat) (h0 : Jv m0 σ G F) (c : Nat → St → Hp → Bool → Prop)
    (hs : ∀ m σ' G' F', Ex G G' → Dj G' F' → Jv m σ' G' F' → ∃ b, EvT t σ' G' b ∧ (b = true → ∀ G2, Ex G' G2 → Dj G2 F' → ∃ N : St → Hp → Prop, (∀ σ2 H2, N σ2 H2 → ∃ m', m' < m ∧ Iv G (Jv m') σ2 H2) ∧ ty { E with nx := N, ct := N, bk := tz E } σ' (un G2 F')) ∧ (b = false → ∀ G2, Ex G' G2 → Dj G2 F' → tz E σ' (un G2 F'))) : tSeq (tWhile t ty) tz E σ (un G F) := by
  refine ⟨fun m σ H => Iv G (Jv m) σ H, ⟨m0, Iv.mk (Ex.refl _) dj h0⟩, ?_⟩
  rintro m σ H ⟨G', F', rfl, e', d', j⟩
  obtain ⟨b, hb, ht, hf⟩ := hs m σ G' F' e' d' j
  refine hb.run d' fun G2 e2 d2 => ?_
  cases b with
  | true =>
    obtain ⟨N, hN, q⟩ := ht rfl G2 e2 d2
    exact ⟨N, hN, q⟩
  | false => exact hf rfl G2 e2 d2
/-! ### comprehensions -/
theorem et_yes : EvT tYes σ G true := fun G1 a F dj Q q => q G1 (Ex.refl _) dj
/-- the value is a new list of one's own -/
def EvN (K : PySem.W.Frag) (te : TE) (σ : St) (G : Hp) (ds : List PyData) : Prop :=
  ∀ G1, Ex G G1 → ∀ F, Dj G1 F → ∀ Q : VK, (∀ p xs G2, Ex G1 G2 → G2 p = none → F p = none → Dj G2 (upd F p (.lst xs)) → DpAll K G2 xs ds → Q (.ref p) (un G2 (upd F p (.lst xs)))) → te σ (un G1 F) Q
theorem EvN.lx {ds : List PyData} (h : EvN K te σ G ds) : Ev te σ G (Lx K ds) := fun G1 a F dj Q q => h G1 a F dj Q fun p xs G2 e2 n1 n2 d2 al => by
  rw [upd_lr n1]
  exact q _ _ (e2.trans (Ex.new n1)) ((d2.off n2).newL n2) ⟨p, xs, rfl, upd_same, dpA_ex (Ex.new n1) _ _ al⟩
theorem s_setN {i : Nat} {ds : List PyData} (dj : Dj G F) (h : EvN K te σ G ds) (k : ∀ p xs G', Ex G G' → F p = none → Dj G' (upd F p (.lst xs)) → DpAll K G' xs ds → tz E (σ.set i (some (.ref p))) (un G' (upd F p (.lst xs)))) : tSeq (tAsg te (gName i)) tz E σ (un G F) := h G (Ex.refl _) F dj _ fun p xs G2 e2 _ n2 d2 al => k p xs G2 e2 n2 d2 al
/-- list(t), t a tuple -/
theorem en_lstT {ds : List PyData} (ha : Ev ta σ G (D K (.tuple ds))) : EvN K (tCB (rLstC K) (tCons ta tNil)) σ G ds := fun G1 a F dj Q q => ha G1 a F dj _ fun x G2 e2 d2 p => by
  obtain ⟨b, xs, rfl, h1, h2⟩ := p.tup
  refine ⟨b, xs, rfl, .inr (sqT_ex ex_un h1), fun l hn => ?_⟩
  obtain ⟨n1, n2⟩ := un_no hn
  rw [upd_r n1]
  exact q l xs G2 e2 n1 n2 (d2.newR n1) h2
/-- the new list of a comprehension while it grows -/
theorem e_lcF {wi : TI} {xs : List α} {R : α → V → Hp → Prop} {vs : List Nat} {f : α → Bool} {m : α → PyData} {R2 : α → St → Hp → Prop} (h : EvI wi σ G xs R) (hz : xs.length ≤ 1000)
    (hg : ∀ a x G', a ∈ xs → Ex G G' → R a x G' → EvG g x (wipe σ vs) G' (R2 a)) (hw : ∀ a σ2 G', R2 a σ2 G' → wipe σ2 vs = wipe σ vs)
    (ht : ∀ a σ2 G', a ∈ xs → Ex G G' → R2 a σ2 G' → EvT t σ2 G' (f a)) (he : ∀ a σ2 G', a ∈ xs → Ex G G' → R2 a σ2 G' → f a = true → Ev te σ2 G' (D K (m a))) (h2m : ∀ a σ2 G0 G', Ex G0 G' → R2 a σ2 G0 → R2 a σ2 G') : EvN K (tLc wi g t te vs) σ G ((xs.filter f).map m) := fun G0 a0 F dj Q q =>
  h G0 a0 F dj _ fun J G1 e1 d1 S => fun Dl hD => by
    obtain ⟨n1, n2⟩ := un_no hD
    rw [upd_r n1]
    refine ⟨fun i mm H => mm = xs.length - i ∧ i ≤ xs.length ∧ ∃ G' ys, H = un G' (upd F Dl (.lst ys)) ∧ Ex G1 G' ∧ Dj G' (upd F Dl (.lst ys)) ∧ DpAll K G' ys (((xs.take i).filter f).map m), ⟨xs.length, by simp, Nat.zero_le _, G1, [], rfl, Ex.refl _, d1.newR n1, .nil⟩, ?_⟩
    rintro i mm H ⟨rfl, hi, G', ys, rfl, e', d', al⟩
    have sp : ∀ {G2 : Hp} {zs : List V}, Dj G2 (upd F Dl (.lst zs)) → G2 Dl = none := fun d => d.n upd_same
    by_cases hlt : i < xs.length
    · have ha := List.getElem?_eq_getElem hlt
      have hmem : xs[i] ∈ xs := List.getElem_mem hlt
      refine .inr ⟨S.goes i G' _ hlt e' d', fun H' => ∃ G' ys, H' = un G' (upd F Dl (.lst ys)) ∧ Ex G1 G' ∧ Dj G' (upd F Dl (.lst ys)) ∧ DpAll K G' ys (((xs.take (i + 1)).filter f).map m), fun H' p => ⟨xs.length - (i + 1), by omega, rfl, hlt, p⟩, fun x H' y => ?_⟩
      obtain ⟨G2, e2, d2, rfl, rr⟩ := S.yields i _ G' _ x H' ha e' d' y
      have E2 : Ex G G2 := ((a0.trans e1).trans e').trans e2
      refine hg _ x G2 hmem E2 rr G2 (Ex.refl _) _ d2 _ fun σ2 r2 => ⟨hw _ _ _ r2, ?_⟩
      refine ht _ σ2 G2 hmem E2 r2 G2 (Ex.refl _) _ d2 _ fun G3 e3 d3 => ?_
      have tk : xs.take (i + 1) = xs.take i ++ [xs[i]] := by rw [List.take_succ, ha]; rfl
      cases hf : f xs[i] with
      | true =>
        show te σ2 _ _
        refine he _ σ2 G2 hmem E2 r2 hf G3 e3 _ d3 _ fun y G4 e4 d4 p4 => ⟨ys, un_r d4 upd_same, ?_, ?_⟩
        · refine small1000 ?_
          have l := dpA_len al
          rw [List.length_map] at l
          have l2 := List.length_filter_le f (xs.take i)
          rw [List.length_take] at l2
          omega
        · rw [upd_r (sp d4), upd_upd]
          have d5 : Dj G4 (upd F Dl (.lst (ys ++ [y]))) := by
            have z := d4.newR (o := .lst (ys ++ [y])) (sp d4)
            rw [upd_upd] at z
            exact z
          refine ⟨G4, ys ++ [y], rfl, ((e'.trans e2).trans e3).trans e4, d5, ?_⟩
          rw [tk, List.filter_append, List.filter_cons_of_pos hf, List.map_append]
          exact dpA_app (dpA_ex ((e2.trans e3).trans e4) _ _ al) (.cons p4 .nil)
      | false =>
        show ∃ G' ys, _
        refine ⟨G3, ys, rfl, (e'.trans e2).trans e3, d3, ?_⟩
        rw [tk, List.filter_append, List.filter_cons_of_neg (by rw [hf]; decide)]
        show DpAll K G3 ys (((xs.take i).filter f ++ []).map m)
        rw [List.append_nil]
        exact dpA_ex (e2.trans e3) _ _ al
    · have e : i = xs.length := by omega
      subst e
      rw [List.take_length] at al
      refine .inl ⟨S.stops G' _ e' d', ?_⟩
      exact q Dl ys G' (e1.trans e') (sp d') n2 d' al
theorem e_lc {wi : TI} {xs : List α} {R : α → V → Hp → Prop} {vs : List Nat} {f : α → Bool} {m : α → PyData} {R2 : α → St → Hp → Prop} (h : EvI wi σ G xs R) (hz : xs.length ≤ 1000)
    (hg : ∀ a x G', a ∈ xs → Ex G G' → R a x G' → EvG g x (wipe σ vs) G' (R2 a)) (hw : ∀ a σ2 G', R2 a σ2 G' → wipe σ2 vs = wipe σ vs)
    (ht : ∀ a σ2 G', a ∈ xs → Ex G G' → R2 a σ2 G' → EvT t σ2 G' (f a)) (he : ∀ a σ2 G', a ∈ xs → Ex G G' → R2 a σ2 G' → f a = true → Ev te σ2 G' (D K (m a))) (h2m : ∀ a σ2 G0 G', Ex G0 G' → R2 a σ2 G0 → R2 a σ2 G') : Ev (tLc wi g t te vs) σ G (Lx K ((xs.filter f).map m)) := (e_lcF h hz hg hw ht he h2m).lx
/-- a name, no test, one's own -/
theorem en_lcM {wi : TI} {xs : List α} {enc : α → PyData} {vs : List Nat} {j : Nat} (m : α → PyData) (h : EvI wi σ G xs (fun a => D K (enc a))) (hz : xs.length ≤ 1000) (hw : ∀ x, wipe ((wipe σ vs).set j (some x)) vs = wipe σ vs)
    (he : ∀ a x G', a ∈ xs → Ex G G' → D K (enc a) x G' → Ev te ((wipe σ vs).set j (some x)) G' (D K (m a))) : EvN K (tLc wi (gName j) tYes te vs) σ G (xs.map m) := by
  have z := e_lcF (f := fun _ => true) (m := m) (K := K) (te := te) (t := tYes) (g := gName j) (vs := vs) (R2 := fun a σ2 G' => ∃ x, σ2 = (wipe σ vs).set j (some x) ∧ D K (enc a) x G') h hz (fun a x G' hm e r G1 e1 F dj Q q => eg_name (G := G') G1 e1 F dj Q fun σ2 h2 => q σ2 ⟨x, h2, r.ex e1⟩)
    (fun a σ2 G' ⟨x, e, _⟩ => by rw [e]; exact hw x) (fun a σ2 G' hm e _ => et_yes) (fun a σ2 G' hm e ⟨x, e2, r⟩ hf => by rw [e2]; exact he a x G' hm e r) (fun a σ2 G0 G' e ⟨x, e2, r⟩ => ⟨x, e2, r.ex e⟩)
  rw [List.filter_eq_self.mpr (fun _ _ => rfl)] at z
  exact z
/-- the target a name -/
theorem e_lcN {wi : TI} {xs : List α} {enc : α → PyData} {vs : List Nat} {j : Nat} (f : α → Bool) (m : α → PyData) (h : EvI wi σ G xs (fun a => D K (enc a))) (hz : xs.length ≤ 1000) (hw : ∀ x, wipe ((wipe σ vs).set j (some x)) vs = wipe σ vs)
    (ht : ∀ a x G', a ∈ xs → Ex G G' → D K (enc a) x G' → EvT t ((wipe σ vs).set j (some x)) G' (f a)) (he : ∀ a x G', a ∈ xs → Ex G G' → D K (enc a) x G' → f a = true → Ev te ((wipe σ vs).set j (some x)) G' (D K (m a))) : Ev (tLc wi (gName j) t te vs) σ G (Lx K ((xs.filter f).map m)) :=
  e_lc (R2 := fun a σ2 G' => ∃ x, σ2 = (wipe σ vs).set j (some x) ∧ D K (enc a) x G') h hz (fun a x G' hm e r G1 e1 F dj Q q => eg_name (G := G') G1 e1 F dj Q fun σ2 h2 => q σ2 ⟨x, h2, r.ex e1⟩)
    (fun a σ2 G' ⟨x, e, _⟩ => by rw [e]; exact hw x) (fun a σ2 G' hm e ⟨x, e2, r⟩ => by rw [e2]; exact ht a x G' hm e r) (fun a σ2 G' hm e ⟨x, e2, r⟩ hf => by rw [e2]; exact he a x G' hm e r hf) (fun a σ2 G0 G' e ⟨x, e2, r⟩ => ⟨x, e2, r.ex e⟩)
/-- .. without a test -/
theorem e_lcM {wi : TI} {xs : List α} {enc : α → PyData} {vs : List Nat} {j : Nat} (m : α → PyData) (h : EvI wi σ G xs (fun a => D K (enc a))) (hz : xs.length ≤ 1000) (hw : ∀ x, wipe ((wipe σ vs).set j (some x)) vs = wipe σ vs)
    (he : ∀ a x G', a ∈ xs → Ex G G' → D K (enc a) x G' → Ev te ((wipe σ vs).set j (some x)) G' (D K (m a))) : Ev (tLc wi (gName j) tYes te vs) σ G (Lx K (xs.map m)) := by
  have z := e_lcN (fun _ => true) m h hz hw (fun _ _ _ _ _ _ => et_yes) (fun a x G' hm e r _ => he a x G' hm e r)
  rw [List.filter_eq_self.mpr (fun _ _ => rfl)] at z
  exact z
/-- the target a pair -/
theorem e_lcP {wi : TI} {xs : List α} {e1 e2 : α → PyData} {vs : List Nat} {i j : Nat} (f : α → Bool) (m : α → PyData) (h : EvI wi σ G xs (fun a => D K (.tuple [e1 a, e2 a]))) (hz : xs.length ≤ 1000) (hw : ∀ x y, wipe (((wipe σ vs).set i (some x)).set j (some y)) vs = wipe σ vs)
    (ht : ∀ a x y G', a ∈ xs → Ex G G' → D K (e1 a) x G' → D K (e2 a) y G' → EvT t (((wipe σ vs).set i (some x)).set j (some y)) G' (f a))
    (he : ∀ a x y G', a ∈ xs → Ex G G' → D K (e1 a) x G' → D K (e2 a) y G' → f a = true → Ev te (((wipe σ vs).set i (some x)).set j (some y)) G' (D K (m a))) : Ev (tLc wi (gTup K 2 (gCons (gName i) (gCons (gName j) gNil))) t te vs) σ G (Lx K ((xs.filter f).map m)) :=
  e_lc (R2 := fun a σ2 G' => ∃ x y, σ2 = ((wipe σ vs).set i (some x)).set j (some y) ∧ D K (e1 a) x G' ∧ D K (e2 a) y G') h hz (fun a x G' hm e r => eg_pair r)
    (fun a σ2 G' ⟨x, y, e, _⟩ => by rw [e]; exact hw x y) (fun a σ2 G' hm e ⟨x, y, e2, r1, r2⟩ => by rw [e2]; exact ht a x y G' hm e r1 r2) (fun a σ2 G' hm e ⟨x, y, e2, r1, r2⟩ hf => by rw [e2]; exact he a x y G' hm e r1 r2 hf) (fun a σ2 G0 G' e ⟨x, y, e2, r1, r2⟩ => ⟨x, y, e2, r1.ex e, r2.ex e⟩)
theorem e_lcPM {wi : TI} {xs : List α} {e1 e2 : α → PyData} {vs : List Nat} {i j : Nat} (m : α → PyData) (h : EvI wi σ G xs (fun a => D K (.tuple [e1 a, e2 a]))) (hz : xs.length ≤ 1000) (hw : ∀ x y, wipe (((wipe σ vs).set i (some x)).set j (some y)) vs = wipe σ vs)
    (he : ∀ a x y G', a ∈ xs → Ex G G' → D K (e1 a) x G' → D K (e2 a) y G' → Ev te (((wipe σ vs).set i (some x)).set j (some y)) G' (D K (m a))) : Ev (tLc wi (gTup K 2 (gCons (gName i) (gCons (gName j) gNil))) tYes te vs) σ G (Lx K (xs.map m)) := by
  have z := e_lcP (fun _ => true) m h hz hw (fun _ _ _ _ _ _ _ _ => et_yes) (fun a x y G' hm e r1 r2 _ => he a x y G' hm e r1 r2)
  rw [List.filter_eq_self.mpr (fun _ _ => rfl)] at z
  exact z
theorem Ev.l {ds : List PyData} (h : Ev te σ G (Lx K ds)) : Ev te σ G (D K (.list ds)) := h.imp fun v G' _ p => p.d
end
end Bf
set_option Elab.async false
set_option linter.all false
set_option maxRecDepth 100000
set_option maxHeartbeats 2000000
/-! Own layer, part 4: defs and their promises, module constants, isinstance, dicts, the plan. -/
namespace Bf
open PySem PyProof.Rows L2

/-! ### defs -/
/-- n arguments that meet pre, ok of the data: the value meets post; new things in G alone -/
def FnS {α : Type} (n : Nat) (pre : α → List (V → Hp → Prop)) (ok : α → Prop) (post : α → V → Hp → Prop) : Sp := fun vs H Q _ =>
  vs.length = n ∧ ∃ (a : α) (G F : Hp), H = un G F ∧ Dj G F ∧ Al (pre a) vs G ∧ ok a ∧ ∀ v G', Ex G G' → Dj G' F → post a v G' → Q v (un G' F)
theorem Al.len {Ps : List (V → Hp → Prop)} {vs : List V} {G : Hp} (h : Al Ps vs G) : vs.length = Ps.length := by
  induction h with
  | nil => rfl
  | cons _ _ ih => rw [List.length_cons, List.length_cons, ih]
theorem ev_callS {α : Type} {n : Nat} {pre : α → List (V → Hp → Prop)} {ok : α → Prop} {post : α → V → Hp → Prop} {σ : St} {G : Hp} {tt : TA} (a : α) (ha : EvA tt σ G (pre a)) (hn : (pre a).length = n) (h : ok a) : Ev (tCall (FnS n pre ok post) [] E0 tt) σ G (post a) := fun G1 e F dj Q q =>
  ha G1 e F dj _ fun vs G2 e2 d2 al => by
    show FnS n pre ok post (vs ++ []) (un G2 F) Q E0
    rw [List.append_nil]
    exact ⟨al.len.trans hn, a, G2, F, rfl, d2, al, h, fun v G3 e3 d3 p => q v G3 (e2.trans e3) d3 p⟩
/-- the def x of the module keeps sp -/
structure FD (P : Program) (w : World) (K : PySem.W.Frag) (mg : Str → Option Value) (base : Heap) (k : Nat) (x : Str) (ps : List Str) (sp : Sp) : Prop where
  ex : ∃ (f : Addr) (fd : FuncData), FnOk P w K mg base CX0 k f fd ps sp ∧ mg x = some (.ref f) ∧ PySem.W.keepIn K (.ref f) = true ∧ Binds K fd ps []
section
variable {X : Cx} {x : Str} {k : Nat} {ps : List Str} {sp : Sp} {e : Expr} {es : List Expr} {p pos : Pos} {t : TA}
theorem pe_callD (F : FD X.prog X.w X.K X.mg X.base k x ps sp) (hr : Room k X.A) (hg : Gl X x) (ha : PA X (e :: es) t) (hdb : (x == ("__debug__" : Str)) = false := by decide)
    (he : starEach (e :: es) X.env = (false, eval e X.env) :: starEach es X.env := by rfl) (hpl : (backTo pos (starEach es X.env)).any (·.1) = false := by rfl) : PE X (.Call (.Name x p) (e :: es) [] pos) (tCall sp [] E0 t) := by
  obtain ⟨f, fd, h1, h2, h3, h4⟩ := F.ex
  exact pe_call h1 hr hg h2 h3 h4 .nil pass0 ha hdb he hpl
end
/-- a def as the top leaves it -/
structure Df (K : PySem.W.Frag) (mg : Str → Option Value) (x : Str) (st : Stmt) : Prop where
  ex : ∃ (f : Addr) (fd : FuncData), FunD K x x (defArgs st) (defBody st) (defScope st) [] [] f fd ∧ mg x = some (.ref f)
theorem fd_ok {P : Program} {w : World} {K : PySem.W.Frag} {mg : Str → Option Value} {base : Heap} {x : Str} {st : Stmt} {N ps : List Str} {k : Nat} {sp : Sp} (F : Df K mg x st) (S : FnScope N ps (defScope st))
    (hb : ∀ (kV doc pm : Value) (an : Option Addr) (cdv ct : Value) (us : List Value), us.length = ps.length → bindArgs (PySem.W.fnOf x x (defArgs st) (defBody st) (defScope st) .none kV doc pm an cdv ct) ⟨us, []⟩ = pure (ps.zip us))
    (len : ∀ vs H Q E, sp vs H Q E → vs.length = ps.length)
    (hbody : ∀ (f : Addr) (cdv : Value) (A : Around) (outer : List Env) (s : Shared) (H : Hp) (vs : List V) (Q : VK) (E : XK), Room k (A.deeper (envOfC x (defScope st) s.heap.objs.size f cdv)) → sp vs H Q E →
      ∃ t, PSs (cxOf CX0 P w K mg base N x (defScope st) f cdv A outer s H E).nox (defBody st) t ∧ t { nx := fun _ H' => Q .non H', rt := Q } (start N vs) H) : FD P w K mg base (k + 1) x ps sp := by
  obtain ⟨f, fd, h1, h2⟩ := F.ex
  exact ⟨f, fd, FunD.ok h1 S len fun cdv A outer s H vs Q E hr hsp => by
    obtain ⟨t, p, q⟩ := hbody f cdv A outer s H vs Q E hr hsp
    exact ⟨t, p.nox, q⟩, h2, h1.kp, h1.bindsN hb⟩
/-- the same, by the data -/
theorem fd_S {P : Program} {w : World} {K : PySem.W.Frag} {mg : Str → Option Value} {base : Heap} {x : Str} {st : Stmt} {N ps : List Str} {k : Nat} {α : Type} {n : Nat} {pre : α → List (V → Hp → Prop)} {ok : α → Prop} {post : α → V → Hp → Prop} (F : Df K mg x st) (S : FnScope N ps (defScope st)) (hn : n = ps.length)
    (hb : ∀ (kV doc pm : Value) (an : Option Addr) (cdv ct : Value) (us : List Value), us.length = ps.length → bindArgs (PySem.W.fnOf x x (defArgs st) (defBody st) (defScope st) .none kV doc pm an cdv ct) ⟨us, []⟩ = pure (ps.zip us))
    (hbody : ∀ (f : Addr) (cdv : Value) (A : Around) (outer : List Env) (s : Shared) (H : Hp) (E : XK), Room k (A.deeper (envOfC x (defScope st) s.heap.objs.size f cdv)) →
      ∃ t, PSs (cxOf CX0 P w K mg base N x (defScope st) f cdv A outer s H E).nox (defBody st) t ∧ ∀ (vs : List V) (Q : VK) (a : α) (G F : Hp), Dj G F → Al (pre a) vs G → ok a → (∀ v G', Ex G G' → Dj G' F → post a v G' → Q v (un G' F)) → t { nx := fun _ H' => Q .non H', rt := Q } (start N vs) (un G F)) : FD P w K mg base (k + 1) x ps (FnS n pre ok post) :=
  fd_ok F S hb (fun vs H Q E h => h.1.trans hn) fun f cdv A outer s H vs Q E hr h => by
    obtain ⟨t, p, q⟩ := hbody f cdv A outer s H E hr
    obtain ⟨_, a, G, F, rfl, dj, al, hok, k⟩ := h
    exact ⟨t, p, q vs Q a G F dj al hok k⟩
/-! ### module constants -/
section
variable {X : Cx} {x : Str} {pos : Pos}
theorem pe_gI {i : Int} (h : ∃ t, X.mg x = some (.int i t)) (hg : Gl X x) (hd : (x == ("__debug__" : Str)) = false := by decide) : PE X (.Name x pos) (tC (.int i)) := by
  obtain ⟨t, h⟩ := h
  exact pe_glob hg h ⟨t, rfl⟩ hd
theorem pe_gS {z : Str} (h : ∃ t, X.mg x = some (.str z t)) (hg : Gl X x) (hd : (x == ("__debug__" : Str)) = false := by decide) : PE X (.Name x pos) (tC (.str z)) := by
  obtain ⟨t, h⟩ := h
  exact pe_glob hg h ⟨t, rfl⟩ hd
theorem pe_ty {n : String} (hg : Gl X x) (hm : X.mg x = none) (hv : bootBuiltins x = some (.type n)) (hn : x ≠ "__name__" := by decide) (hd : (x == ("__debug__" : Str)) = false := by decide) : PE X (.Name x pos) (tC (.ty n)) := pe_bltn hg hm hv rfl hn hd
end
section
variable {K : PySem.W.Frag} {σ : St} {G G' F : Hp} {ta tb te tx td ty : TE} {t u : TT} {P P' P1 P2 : V → Hp → Prop} {r : R2} {v : V} {E : Ends} {tz : TS}
/-! ### isinstance -/
theorem ev_isi {d : PyData} {n : String} {tn : String} {b : Bool} (ha : Ev ta σ G (D K d)) (ht : ∀ x G1, Ex G G1 → D K d x G1 → TyX K G1 x (.type tn)) (hu : ∀ x H H' t, Ex H H' → TyX K H x t → TyX K H' x t) (hk : PySem.W.kitOne K (.type tn) (.type n) = some b) : Ev (tCB (rIsi K) (tCons ta (tCons (tC (.ty n)) tNil))) σ G (D K (.bool b)) := fun G1 a F dj Q q =>
  ha G1 a F dj _ fun x G2 e2 d2 p => ⟨x, .ty n, .type tn, .type n, b, rfl, .ty n, hu x _ _ _ ex_un (ht x G2 (a.trans e2) p), hk, q _ G2 e2 d2 (dBl _)⟩
theorem tyx_ex : ∀ x H H' t, Ex H H' → TyX K H x t → TyX K H' x t := fun x H H' t e h => by
  cases h with
  | base h =>
    refine .base ?_
    cases h with
    | non => exact .non
    | bl x => exact .bl x
    | int x => exact .int x
    | str x => exact .str x
    | flt x => exact .flt x
    | lst h => exact .lst (e _ _ h)
    | frz h => exact .frz (e _ _ h)
    | tup h => exact .tup (e _ _ h)
    | dK h => exact .dK (e _ _ h)
    | dT h => exact .dT (e _ _ h)
    | ins h h1 h2 h3 h4 h5 => exact .ins (e _ _ h) h1 h2 h3 h4 h5
  | byt b => exact .byt b
  | set h => exact .set (e _ _ h)
  | kList h c => exact .kList h c
  | kTuple h c => exact .kTuple h c
  | kDict h c => exact .kDict h c
  | fTuple h => exact .fTuple (e _ _ h)
  | fDict h => exact .fDict (e _ _ h)
theorem tyx_tup {ds : List PyData} {x : V} (h : D K (.tuple ds) x G) : TyX K G x (.type "tuple") := by
  obtain ⟨a, xs, rfl, h1, _⟩ := h.tup
  rcases h1 with (h1 | ⟨o, h1⟩) | ⟨o, its, n, h1, h2, _⟩
  · exact .base (.tup h1)
  · exact .fTuple h1
  · exact .kTuple h1 h2
theorem ev_isiInt {i : Int} {n : String} {b : Bool} (ha : Ev ta σ G (D K (.int i))) (hk : kitB "int" n = some b) : Ev (tCB (rIsi K) (tCons ta (tCons (tC (.ty n)) tNil))) σ G (D K (.bool b)) :=
  ev_isi ha (fun x G1 _ h => by rw [h.int]; exact .base (.int i)) tyx_ex (kit_ty hk)
theorem ev_isiStr {i : Str} {n : String} {b : Bool} (ha : Ev ta σ G (D K (.str i))) (hk : kitB "str" n = some b) : Ev (tCB (rIsi K) (tCons ta (tCons (tC (.ty n)) tNil))) σ G (D K (.bool b)) :=
  ev_isi ha (fun x G1 _ h => by rw [h.str]; exact .base (.str i)) tyx_ex (kit_ty hk)
theorem ev_isiTup {i : List PyData} {n : String} {b : Bool} (ha : Ev ta σ G (D K (.tuple i))) (hk : kitB "tuple" n = some b) : Ev (tCB (rIsi K) (tCons ta (tCons (tC (.ty n)) tNil))) σ G (D K (.bool b)) :=
  ev_isi ha (fun x G1 _ h => tyx_tup h) tyx_ex (kit_ty hk)
/-! ### a chain of two comparisons of ints -/
theorem ev_chain {g g' : Int → Int → Bool} {i j k : Int} {tc : TE} (ha : Ev ta σ G (D K (.int i))) (hb : Ev tb σ G (D K (.int j))) (hc : Ev tc σ G (D K (.int k))) : Ev (tChain (rI0 fun i j => .bl (g i j)) (rI0 fun i j => .bl (g' i j)) ta tb tc) σ G (D K (.bool (g i j && g' j k))) := fun G1 a F dj Q q =>
  ha G1 a F dj _ fun x G2 e2 d2 p1 => hb G2 (a.trans e2) F d2 _ fun y G3 e3 d3 p2 => by
    obtain rfl := p1.int
    obtain rfl := p2.int
    refine ⟨i, j, rfl, rfl, g i j, rfl, ?_⟩
    cases hg : g i j with
    | true =>
      refine hc G3 ((a.trans e2).trans e3) F d3 _ fun z G4 e4 d4 p3 => ?_
      obtain rfl := p3.int
      exact ⟨j, k, rfl, rfl, q _ G4 ((e2.trans e3).trans e4) d4 (by rw [hg]; exact dBl _)⟩
    | false => exact q _ G3 (e2.trans e3) d3 (by rw [hg]; exact dBl _)
/-! ### dicts with text keys -/
def KDs (K : PySem.W.Frag) (G : Hp) : List (Key × V) → List (Str × PyData) → Prop := Paired fun p q => p.1 = Sum.inr q.1 ∧ D K q.2 p.2 G
/-- v is a dict with these pairs, read | tracked as such -/
def Dk (K : PySem.W.Frag) (kvs : List (Str × PyData)) : V → Hp → Prop := fun v G => ∃ a vs, v = .ref a ∧ Rd G a (.dK vs) ∧ KDs K G vs kvs
def Dx (K : PySem.W.Frag) (kvs : List (Str × PyData)) : V → Hp → Prop := fun v G => ∃ a vs, v = .ref a ∧ G a = some (.dK vs) ∧ KDs K G vs kvs
theorem kds_ex (e : Ex G G') {vs : List (Key × V)} {kvs : List (Str × PyData)} (h : KDs K G vs kvs) : KDs K G' vs kvs := Paired.mapP h fun _ _ q => ⟨q.1, q.2.ex e⟩
theorem mo_Dk {kvs : List (Str × PyData)} : Mo (Dk K kvs) := fun v G G' e ⟨a, vs, h1, h2, h3⟩ => ⟨a, vs, h1, rd_ex e h2, kds_ex e h3⟩
theorem mo_Dx {kvs : List (Str × PyData)} : Mo (Dx K kvs) := fun v G G' e ⟨a, vs, h1, h2, h3⟩ => ⟨a, vs, h1, e _ _ h2, kds_ex e h3⟩
theorem Dx.dk {kvs : List (Str × PyData)} (h : Dx K kvs v G) : Dk K kvs v G := by
  obtain ⟨a, vs, h1, h2, h3⟩ := h
  exact ⟨a, vs, h1, .inl h2, h3⟩
def getK {β : Type} (kvs : List (Str × β)) (s : Str) : Option β := (kvs.find? fun p => decide (p.1 = s)).map (·.2)
theorem getK_nil {β : Type} {s : Str} : getK ([] : List (Str × β)) s = none := rfl
theorem getK_cons {β : Type} {p : Str × β} {r : List (Str × β)} {s : Str} : getK (p :: r) s = if p.1 = s then some p.2 else getK r s := by
  unfold getK
  rw [List.find?_cons]
  by_cases h : p.1 = s
  · simp [h]
  · simp [h]
theorem kds_get {s : Str} : ∀ {vs : List (Key × V)} {kvs : List (Str × PyData)}, KDs K G vs kvs → match getK kvs s with | some d => ∃ v, valV vs (Sum.inr s : Key) = some v ∧ D K d v G | none => valV vs (Sum.inr s : Key) = none
  | _, [], h => by cases h; exact rfl
  | _, q :: kvs, h => by
    cases h with
    | @cons p _ ps _ h1 h2 =>
      obtain ⟨e1, e2⟩ := h1
      rw [getK_cons]
      by_cases hq : q.1 = s
      · rw [if_pos hq]
        refine ⟨p.2, valV_pos ?_, e2⟩
        rw [e1, hq]
      · rw [if_neg hq, valV_neg (fun z => hq (by rw [e1] at z; exact Sum.inr.inj z))]
        exact kds_get h2
theorem ev_dget {kvs : List (Str × PyData)} {s : Str} {d : PyData} (ha : Ev td σ G (Dk K kvs)) (hb : Ev ty σ G (D K (.str s))) (hd : getK kvs s = some d) : Ev (tDGet td ty) σ G (D K d) := fun G1 a F dj Q q =>
  ha G1 a F dj _ fun x G2 e2 d2 p => hb G2 (a.trans e2) F d2 _ fun y G3 e3 d3 p2 => by
    obtain ⟨b, vs, rfl, h1, h2⟩ := mo_Dk _ _ _ e3 p
    obtain rfl := p2.str
    have z := kds_get (s := s) h2
    rw [hd] at z
    obtain ⟨v, z1, z2⟩ := z
    exact ⟨b, v, rfl, .inl ⟨vs, Sum.inr s, rd_ex ex_un h1, rfl, z1.symm⟩, q v G3 (e2.trans e3) d3 z2⟩
theorem ev_dget2 {kvs : List (Str × PyData)} {s : Str} {d : PyData} (ha : Ev td σ G (Dk K kvs)) (hb : Ev ty σ G (D K (.str s))) (hx : Ev tx σ G (D K d)) : Ev (tDGet2 td ty tx) σ G (D K ((getK kvs s).getD d)) := fun G1 a F dj Q q =>
  ha G1 a F dj _ fun x G2 e2 d2 p => by
    obtain ⟨b, vs0, rfl, h0, _⟩ := id p
    refine ⟨b, rfl, .inl ⟨vs0, rd_ex ex_un h0⟩, hb G2 (a.trans e2) F d2 _ fun y G3 e3 d3 p2 => hx G3 ((a.trans e2).trans e3) F d3 _ fun w G4 e4 d4 p3 => ?_⟩
    obtain ⟨b', vs, e5, h1, h2⟩ := mo_Dk _ _ _ (e3.trans e4) p
    cases e5
    obtain rfl := p2.str
    have z := kds_get (s := s) h2
    refine ⟨valV vs (Sum.inr s : Key), .inl ⟨vs, Sum.inr s, rd_ex ex_un h1, rfl, rfl⟩, ?_⟩
    cases hg : getK kvs s with
    | some d' =>
      rw [hg] at z
      obtain ⟨v, z1, z2⟩ := z
      rw [z1]
      exact q v G4 ((e2.trans e3).trans e4) d4 (by rw [hg]; exact z2)
    | none =>
      rw [hg] at z
      rw [z]
      exact q w G4 ((e2.trans e3).trans e4) d4 (by rw [hg]; exact p3)
theorem ev_dnot {kvs : List (Str × PyData)} {s : Str} (ha : Ev ty σ G (D K (.str s))) (hb : Ev td σ G (Dk K kvs)) : Ev (tDNotIn ty td) σ G (D K (.bool (!(getK kvs s).isSome))) := fun G1 a F dj Q q =>
  ha G1 a F dj _ fun x G2 e2 d2 p => hb G2 (a.trans e2) F d2 _ fun y G3 e3 d3 p2 => by
    obtain ⟨b, vs, rfl, h1, h2⟩ := p2
    obtain rfl := p.str
    have z := kds_get (s := s) h2
    refine ⟨b, valV vs (Sum.inr s : Key), rfl, .inl ⟨vs, Sum.inr s, rd_ex ex_un h1, rfl, rfl⟩, ?_⟩
    cases hg : getK kvs s with
    | some d' =>
      rw [hg] at z
      obtain ⟨v, z1, z2⟩ := z
      rw [z1]
      exact q _ G3 (e2.trans e3) d3 (by rw [hg]; exact dBl _)
    | none =>
      rw [hg] at z
      rw [z]
      exact q _ G3 (e2.trans e3) d3 (by rw [hg]; exact dBl _)
/-- d = {}, one's own -/
theorem s_dnew {i : Nat} (dj : Dj G F) (k : ∀ p, G p = none → F p = none → Dj G (upd F p (.dK [])) → tz E (σ.set i (some (.ref p))) (un G (upd F p (.dK [])))) : tSeq (tAsg tDNewK (gName i)) tz E σ (un G F) := fun p hn => by
  obtain ⟨n1, n2⟩ := un_no hn
  show tz E (σ.set i (some (.ref p))) (upd (un G F) p (.dK []))
  rw [upd_r n1]
  exact k p n1 n2 (dj.newR n1)
def putS {β : Type} (kvs : List (Str × β)) (s : Str) (b : β) : List (Str × β) := if kvs.any (fun p => decide (p.1 = s)) then kvs.map fun p => if p.1 = s then (p.1, b) else p else kvs ++ [(s, b)]
/-- d[s] = e, d one's own, s new in it -/
theorem s_dput {l : Addr} {i : Nat} {vs : List (Key × V)} {s : Str} (dj : Dj G F) (hl : F l = some (.dK vs)) (ha : σ[i]? = some (some (.ref l))) (hz : vs.length ≤ 1000) (he : Ev te σ G P) (m : Mo P) (hs : ∀ G', Ex G G' → Ev ty σ G' (D K (.str s))) (hn : valV vs (Sum.inr s : Key) = none) (k : ∀ v G', Ex G G' → Dj G' (upd F l (.dK (vs ++ [(Sum.inr s, v)]))) → P v G' → tz E σ (un G' (upd F l (.dK (vs ++ [(Sum.inr s, v)]))))) :
    tSeq (sDPut (tVar i) ty te) tz E σ (un G F) := he.run dj fun v G2 e2 d2 p => ⟨_, ha, (hs G2 e2).run d2 fun y G3 e3 d3 p2 => by
    obtain rfl := p2.str
    have n1 : G3 l = none := d3.n hl
    refine ⟨l, upd (un G3 F) l (.dK (vs ++ [(Sum.inr s, v)])), rfl, .inl ⟨vs, Sum.inr s, un_r d3 hl, rfl, small1000 hz, by rw [putK_new v hn]⟩, ?_⟩
    show tz E σ (upd (un G3 F) l (.dK (vs ++ [(Sum.inr s, v)])))
    rw [upd_r n1]
    exact k v G3 (e2.trans e3) (d3.newR n1) (m _ _ _ e3 p)⟩
end
end Bf
set_option Elab.async false
set_option linter.all false
set_option maxRecDepth 100000
set_option maxHeartbeats 4000000
/-! The text by places: each def's statement, its names. Printed by gentxt.py. -/
namespace Bf
open PySem L2
def top (i : Nat) : Stmt := PySem.Challenge.pw_blindfuses_k72_whole_days_hour_by_hour.main.body.getD i (.Pass ⟨0, 0, 0, 0⟩)

abbrev st_is_number : Stmt := top 19
abbrev nm_is_number : List Str := ["value", "smallest", "largest"]
abbrev ps_is_number : List Str := ["value", "smallest", "largest"]
theorem sc_is_number : FnScope nm_is_number ps_is_number (defScope st_is_number) := ⟨rfl, rfl, rfl, by decide +kernel, rfl, by decide +kernel, by decide +kernel⟩
abbrev st_is_word : Stmt := top 20
abbrev nm_is_word : List Str := ["value", "letter"]
abbrev ps_is_word : List Str := ["value"]
theorem sc_is_word : FnScope nm_is_word ps_is_word (defScope st_is_word) := ⟨rfl, rfl, rfl, by decide +kernel, rfl, by decide +kernel, by decide +kernel⟩
abbrev st_are_rates : Stmt := top 21
abbrev nm_are_rates : List Str := ["row", "rate"]
abbrev ps_are_rates : List Str := ["row"]
theorem sc_are_rates : FnScope nm_are_rates ps_are_rates (defScope st_are_rates) := ⟨rfl, rfl, rfl, by decide +kernel, rfl, by decide +kernel, by decide +kernel⟩
abbrev st_are_above : Stmt := top 22
abbrev nm_are_above : List Str := ["row", "count", "breaker", "other"]
abbrev ps_are_above : List Str := ["row", "count"]
theorem sc_are_above : FnScope nm_are_above ps_are_above (defScope st_are_above) := ⟨rfl, rfl, rfl, by decide +kernel, rfl, by decide +kernel, by decide +kernel⟩
abbrev st_is_point : Stmt := top 23
abbrev nm_is_point : List Str := ["value"]
abbrev ps_is_point : List Str := ["value"]
theorem sc_is_point : FnScope nm_is_point ps_is_point (defScope st_is_point) := ⟨rfl, rfl, rfl, by decide +kernel, rfl, by decide +kernel, by decide +kernel⟩
abbrev st_are_points : Stmt := top 24
abbrev nm_are_points : List Str := ["row", "point", "one", "other"]
abbrev ps_are_points : List Str := ["row"]
theorem sc_are_points : FnScope nm_are_points ps_are_points (defScope st_are_points) := ⟨rfl, rfl, rfl, by decide +kernel, rfl, by decide +kernel, by decide +kernel⟩
abbrev st_Plan___init__ : Stmt := inClass (top 25) 1
abbrev nm_Plan___init__ : List Str := ["self", "rates", "above", "points", "rule"]
abbrev ps_Plan___init__ : List Str := ["self", "rates", "above", "points", "rule"]
theorem sc_Plan___init__ : FnScope nm_Plan___init__ ps_Plan___init__ (defScope st_Plan___init__) := ⟨rfl, rfl, rfl, by decide +kernel, rfl, by decide +kernel, by decide +kernel⟩
abbrev st_Plan_rates : Stmt := inClass (top 25) 2
abbrev nm_Plan_rates : List Str := ["self"]
abbrev ps_Plan_rates : List Str := ["self"]
theorem sc_Plan_rates : FnScope nm_Plan_rates ps_Plan_rates (defScope st_Plan_rates) := ⟨rfl, rfl, rfl, by decide +kernel, rfl, by decide +kernel, by decide +kernel⟩
abbrev st_Plan_above : Stmt := inClass (top 25) 3
abbrev nm_Plan_above : List Str := ["self"]
abbrev ps_Plan_above : List Str := ["self"]
theorem sc_Plan_above : FnScope nm_Plan_above ps_Plan_above (defScope st_Plan_above) := ⟨rfl, rfl, rfl, by decide +kernel, rfl, by decide +kernel, by decide +kernel⟩
abbrev st_Plan_points : Stmt := inClass (top 25) 4
abbrev nm_Plan_points : List Str := ["self"]
abbrev ps_Plan_points : List Str := ["self"]
theorem sc_Plan_points : FnScope nm_Plan_points ps_Plan_points (defScope st_Plan_points) := ⟨rfl, rfl, rfl, by decide +kernel, rfl, by decide +kernel, by decide +kernel⟩
abbrev st_Plan_rule : Stmt := inClass (top 25) 5
abbrev nm_Plan_rule : List Str := ["self"]
abbrev ps_Plan_rule : List Str := ["self"]
theorem sc_Plan_rule : FnScope nm_Plan_rule ps_Plan_rule (defScope st_Plan_rule) := ⟨rfl, rfl, rfl, by decide +kernel, rfl, by decide +kernel, by decide +kernel⟩
abbrev st_Plan_names : Stmt := inClass (top 25) 6
abbrev nm_Plan_names : List Str := ["self", "point"]
abbrev ps_Plan_names : List Str := ["self"]
theorem sc_Plan_names : FnScope nm_Plan_names ps_Plan_names (defScope st_Plan_names) := ⟨rfl, rfl, rfl, by decide +kernel, rfl, by decide +kernel, by decide +kernel⟩
abbrev st_Plan___len__ : Stmt := inClass (top 25) 8
abbrev nm_Plan___len__ : List Str := ["self"]
abbrev ps_Plan___len__ : List Str := ["self"]
theorem sc_Plan___len__ : FnScope nm_Plan___len__ ps_Plan___len__ (defScope st_Plan___len__) := ⟨rfl, rfl, rfl, by decide +kernel, rfl, by decide +kernel, by decide +kernel⟩
abbrev st_does_follow : Stmt := top 26
abbrev nm_does_follow : List Str := ["plan", "wiring", "found", "point", "breaker"]
abbrev ps_does_follow : List Str := ["plan", "wiring"]
theorem sc_does_follow : FnScope nm_does_follow ps_does_follow (defScope st_does_follow) := ⟨rfl, rfl, rfl, by decide +kernel, rfl, by decide +kernel, by decide +kernel⟩
abbrev st_is_wiring : Stmt := top 27
abbrev nm_is_wiring : List Str := ["plan", "value", "breaker"]
abbrev ps_is_wiring : List Str := ["plan", "value"]
theorem sc_is_wiring : FnScope nm_is_wiring ps_is_wiring (defScope st_is_wiring) := ⟨rfl, rfl, rfl, by decide +kernel, rfl, by decide +kernel, by decide +kernel⟩
abbrev st_check_wiring : Stmt := top 28
abbrev nm_check_wiring : List Str := ["plan", "wiring"]
abbrev ps_check_wiring : List Str := ["plan", "wiring"]
theorem sc_check_wiring : FnScope nm_check_wiring ps_check_wiring (defScope st_check_wiring) := ⟨rfl, rfl, rfl, by decide +kernel, rfl, by decide +kernel, by decide +kernel⟩
abbrev st_check_breaker : Stmt := top 29
abbrev nm_check_breaker : List Str := ["plan", "breaker"]
abbrev ps_check_breaker : List Str := ["plan", "breaker"]
theorem sc_check_breaker : FnScope nm_check_breaker ps_check_breaker (defScope st_check_breaker) := ⟨rfl, rfl, rfl, by decide +kernel, rfl, by decide +kernel, by decide +kernel⟩
abbrev st_all_on : Stmt := top 30
abbrev nm_all_on : List Str := ["plan", "rate"]
abbrev ps_all_on : List Str := ["plan"]
theorem sc_all_on : FnScope nm_all_on ps_all_on (defScope st_all_on) := ⟨rfl, rfl, rfl, by decide +kernel, rfl, by decide +kernel, by decide +kernel⟩
abbrev st_line_up : Stmt := top 31
abbrev nm_line_up : List Str := ["plan", "breaker", "found"]
abbrev ps_line_up : List Str := ["plan", "breaker"]
theorem sc_line_up : FnScope nm_line_up ps_line_up (defScope st_line_up) := ⟨rfl, rfl, rfl, by decide +kernel, rfl, by decide +kernel, by decide +kernel⟩
abbrev st_has_power : Stmt := top 34
abbrev nm_has_power : List Str := ["plan", "state", "breaker", "one"]
abbrev ps_has_power : List Str := ["plan", "state", "breaker"]
theorem sc_has_power : FnScope nm_has_power ps_has_power (defScope st_has_power) := ⟨rfl, rfl, rfl, by decide +kernel, rfl, by decide +kernel, by decide +kernel⟩
abbrev st_wrong_load : Stmt := top 35
abbrev nm_wrong_load : List Str := ["plan", "loads", "name"]
abbrev ps_wrong_load : List Str := ["plan", "loads"]
theorem sc_wrong_load : FnScope nm_wrong_load ps_wrong_load (defScope st_wrong_load) := ⟨rfl, rfl, rfl, by decide +kernel, rfl, by decide +kernel, by decide +kernel⟩
abbrev st_check_loads : Stmt := top 36
abbrev nm_check_loads : List Str := ["plan", "loads", "name"]
abbrev ps_check_loads : List Str := ["plan", "loads"]
theorem sc_check_loads : FnScope nm_check_loads ps_check_loads (defScope st_check_loads) := ⟨rfl, rfl, rfl, by decide +kernel, rfl, by decide +kernel, by decide +kernel⟩
abbrev st_currents_in : Stmt := top 37
abbrev nm_currents_in : List Str := ["plan", "wiring", "state", "loads", "rate", "found", "name", "breaker", "one"]
abbrev ps_currents_in : List Str := ["plan", "wiring", "state", "loads"]
theorem sc_currents_in : FnScope nm_currents_in ps_currents_in (defScope st_currents_in) := ⟨rfl, rfl, rfl, by decide +kernel, rfl, by decide +kernel, by decide +kernel⟩
abbrev st_trips_in : Stmt := top 38
abbrev nm_trips_in : List Str := ["plan", "wiring", "state", "loads", "numbers", "over", "row", "one", "first"]
abbrev ps_trips_in : List Str := ["plan", "wiring", "state", "loads"]
theorem sc_trips_in : FnScope nm_trips_in ps_trips_in (defScope st_trips_in) := ⟨rfl, rfl, rfl, by decide +kernel, rfl, by decide +kernel, by decide +kernel⟩
abbrev st_does_run : Stmt := top 40
abbrev nm_does_run : List Str := ["plan", "wiring", "loads"]
abbrev ps_does_run : List Str := ["plan", "wiring", "loads"]
theorem sc_does_run : FnScope nm_does_run ps_does_run (defScope st_does_run) := ⟨rfl, rfl, rfl, by decide +kernel, rfl, by decide +kernel, by decide +kernel⟩
abbrev st_is_timer : Stmt := top 47
abbrev nm_is_timer : List Str := ["value"]
abbrev ps_is_timer : List Str := ["value"]
theorem sc_is_timer : FnScope nm_is_timer ps_is_timer (defScope st_is_timer) := ⟨rfl, rfl, rfl, by decide +kernel, rfl, by decide +kernel, by decide +kernel⟩
abbrev st_check_timed : Stmt := top 48
abbrev nm_check_timed : List Str := ["plan", "wiring", "loads", "timers", "name"]
abbrev ps_check_timed : List Str := ["plan", "wiring", "loads", "timers"]
theorem sc_check_timed : FnScope nm_check_timed ps_check_timed (defScope st_check_timed) := ⟨rfl, rfl, rfl, by decide +kernel, rfl, by decide +kernel, by decide +kernel⟩
abbrev st_check_count : Stmt := top 49
abbrev nm_check_count : List Str := ["value", "largest"]
abbrev ps_check_count : List Str := ["value", "largest"]
theorem sc_check_count : FnScope nm_check_count ps_check_count (defScope st_check_count) := ⟨rfl, rfl, rfl, by decide +kernel, rfl, by decide +kernel, by decide +kernel⟩
abbrev st_length_of : Stmt := top 50
abbrev nm_length_of : List Str := ["timers", "found", "begin", "end", "every", "many"]
abbrev ps_length_of : List Str := ["timers"]
theorem sc_length_of : FnScope nm_length_of ps_length_of (defScope st_length_of) := ⟨rfl, rfl, rfl, by decide +kernel, rfl, by decide +kernel, by decide +kernel⟩
abbrev st_names_on : Stmt := top 51
abbrev nm_names_on : List Str := ["loads", "timers", "number", "name"]
abbrev ps_names_on : List Str := ["loads", "timers", "number"]
theorem sc_names_on : FnScope nm_names_on ps_names_on (defScope st_names_on) := ⟨rfl, rfl, rfl, by decide +kernel, rfl, by decide +kernel, by decide +kernel⟩
abbrev st_loads_at : Stmt := top 52
abbrev nm_loads_at : List Str := ["loads", "timers", "names", "hour", "found", "name", "begin", "end", "every"]
abbrev ps_loads_at : List Str := ["loads", "timers", "names", "hour"]
theorem sc_loads_at : FnScope nm_loads_at ps_loads_at (defScope st_loads_at) := ⟨rfl, rfl, rfl, by decide +kernel, rfl, by decide +kernel, by decide +kernel⟩
abbrev st_trips_of : Stmt := top 53
abbrev nm_trips_of : List Str := ["plan", "wiring", "loads", "timers", "names", "state", "found", "hour", "numbers", "breaker"]
abbrev ps_trips_of : List Str := ["plan", "wiring", "loads", "timers", "names"]
theorem sc_trips_of : FnScope nm_trips_of ps_trips_of (defScope st_trips_of) := ⟨rfl, rfl, rfl, by decide +kernel, rfl, by decide +kernel, by decide +kernel⟩
abbrev st_day : Stmt := top 54
abbrev nm_day : List Str := ["plan", "wiring", "loads", "timers", "number"]
abbrev ps_day : List Str := ["plan", "wiring", "loads", "timers", "number"]
theorem sc_day : FnScope nm_day ps_day (defScope st_day) := ⟨rfl, rfl, rfl, by decide +kernel, rfl, by decide +kernel, by decide +kernel⟩
abbrev st_day_rows : Stmt := top 55
abbrev nm_day_rows : List Str := ["plan", "wiring", "loads", "timers", "known", "found", "number", "names", "hour", "breaker"]
abbrev ps_day_rows : List Str := ["plan", "wiring", "loads", "timers"]
theorem sc_day_rows : FnScope nm_day_rows ps_day_rows (defScope st_day_rows) := ⟨rfl, rfl, rfl, by decide +kernel, rfl, by decide +kernel, by decide +kernel⟩
abbrev st_trips_until : Stmt := top 56
abbrev nm_trips_until : List Str := ["plan", "wiring", "loads", "timers", "count", "rows", "rounds", "rest", "found", "breaker", "row", "counts"]
abbrev ps_trips_until : List Str := ["plan", "wiring", "loads", "timers", "count"]
theorem sc_trips_until : FnScope nm_trips_until ps_trips_until (defScope st_trips_until) := ⟨rfl, rfl, rfl, by decide +kernel, rfl, by decide +kernel, by decide +kernel⟩
abbrev st_first_day : Stmt := top 57
abbrev nm_first_day : List Str := ["plan", "wiring", "loads", "timers", "breaker", "number", "row"]
abbrev ps_first_day : List Str := ["plan", "wiring", "loads", "timers", "breaker"]
theorem sc_first_day : FnScope nm_first_day ps_first_day (defScope st_first_day) := ⟨rfl, rfl, rfl, by decide +kernel, rfl, by decide +kernel, by decide +kernel⟩
abbrev st_Quiet___init__ : Stmt := inClass (top 58) 0
abbrev nm_Quiet___init__ : List Str := ["self", "plan", "wiring", "loads", "timers", "days", "number"]
abbrev ps_Quiet___init__ : List Str := ["self", "plan", "wiring", "loads", "timers"]
theorem sc_Quiet___init__ : FnScope nm_Quiet___init__ ps_Quiet___init__ (defScope st_Quiet___init__) := ⟨rfl, rfl, rfl, by decide +kernel, rfl, by decide +kernel, by decide +kernel⟩
abbrev st_Quiet_does_run : Stmt := inClass (top 58) 1
abbrev nm_Quiet_does_run : List Str := ["self", "loads", "names"]
abbrev ps_Quiet_does_run : List Str := ["self", "loads"]
theorem sc_Quiet_does_run : FnScope nm_Quiet_does_run ps_Quiet_does_run (defScope st_Quiet_does_run) := ⟨rfl, rfl, rfl, by decide +kernel, rfl, by decide +kernel, by decide +kernel⟩
abbrev st_Quiet_is_quiet : Stmt := inClass (top 58) 2
abbrev nm_Quiet_is_quiet : List Str := ["self", "timers", "names", "hour"]
abbrev ps_Quiet_is_quiet : List Str := ["self", "timers"]
theorem sc_Quiet_is_quiet : FnScope nm_Quiet_is_quiet ps_Quiet_is_quiet (defScope st_Quiet_is_quiet) := ⟨rfl, rfl, rfl, by decide +kernel, rfl, by decide +kernel, by decide +kernel⟩
abbrev st_all_shifts : Stmt := top 59
abbrev nm_all_shifts : List Str := ["timers", "size", "ones", "name", "begin", "end", "every", "hour", "others", "found", "turn", "shifts", "one"]
abbrev ps_all_shifts : List Str := ["timers", "size"]
theorem sc_all_shifts : FnScope nm_all_shifts ps_all_shifts (defScope st_all_shifts) := ⟨rfl, rfl, rfl, by decide +kernel, rfl, by decide +kernel, by decide +kernel⟩
abbrev st_shifted : Stmt := top 60
abbrev nm_shifted : List Str := ["timers", "shifts", "found", "name", "hour", "begin", "end", "every"]
abbrev ps_shifted : List Str := ["timers", "shifts"]
theorem sc_shifted : FnScope nm_shifted ps_shifted (defScope st_shifted) := ⟨rfl, rfl, rfl, by decide +kernel, rfl, by decide +kernel, by decide +kernel⟩
abbrev st_fewest_shifts : Stmt := top 61
abbrev nm_fewest_shifts : List Str := ["plan", "wiring", "loads", "timers", "most", "quiet", "size", "shifts"]
abbrev ps_fewest_shifts : List Str := ["plan", "wiring", "loads", "timers", "most"]
theorem sc_fewest_shifts : FnScope nm_fewest_shifts ps_fewest_shifts (defScope st_fewest_shifts) := ⟨rfl, rfl, rfl, by decide +kernel, rfl, by decide +kernel, by decide +kernel⟩
abbrev st__law_taken : Stmt := top 63
abbrev nm__law_taken : List Str := ["_law_row", "_law_many", "_law_found", "_law_cell"]
abbrev ps__law_taken : List Str := ["_law_row", "_law_many"]
theorem sc__law_taken : FnScope nm__law_taken ps__law_taken (defScope st__law_taken) := ⟨rfl, rfl, rfl, by decide +kernel, rfl, by decide +kernel, by decide +kernel⟩
abbrev st__law_pick : Stmt := top 64
abbrev nm__law_pick : List Str := ["_law_row", "_law_some"]
abbrev ps__law_pick : List Str := ["_law_row", "_law_some"]
theorem sc__law_pick : FnScope nm__law_pick ps__law_pick (defScope st__law_pick) := ⟨rfl, rfl, rfl, by decide +kernel, rfl, by decide +kernel, by decide +kernel⟩
abbrev st__law_mixed : Stmt := top 65
abbrev nm__law_mixed : List Str := ["_law_row", "_law_things", "_law_left", "_law_found"]
abbrev ps__law_mixed : List Str := ["_law_row", "_law_things"]
theorem sc__law_mixed : FnScope nm__law_mixed ps__law_mixed (defScope st__law_mixed) := ⟨rfl, rfl, rfl, by decide +kernel, rfl, by decide +kernel, by decide +kernel⟩
abbrev st__law_scheme : Stmt := top 66
abbrev nm__law_scheme : List Str := ["_law_row", "_law_breakers", "_law_spots", "_law_size", "_law_count", "_law_k", "_law_rates", "_law_above", "_law_points", "_law_name", "_law_bound", "_law_whole"]
abbrev ps__law_scheme : List Str := ["_law_row", "_law_breakers", "_law_spots"]
theorem sc__law_scheme : FnScope nm__law_scheme ps__law_scheme (defScope st__law_scheme) := ⟨rfl, rfl, rfl, by decide +kernel, rfl, by decide +kernel, by decide +kernel⟩
abbrev st__law_plan : Stmt := top 67
abbrev nm__law_plan : List Str := ["_law_s"]
abbrev ps__law_plan : List Str := ["_law_s"]
theorem sc__law_plan : FnScope nm__law_plan ps__law_plan (defScope st__law_plan) := ⟨rfl, rfl, rfl, by decide +kernel, rfl, by decide +kernel, by decide +kernel⟩
abbrev st__law_wirings : Stmt := top 68
abbrev nm__law_wirings : List Str := ["_law_s", "_law_found", "_law_k", "_law_longer", "_law_some", "_law_j", "_law_fed", "_law_one"]
abbrev ps__law_wirings : List Str := ["_law_s"]
theorem sc__law_wirings : FnScope nm__law_wirings ps__law_wirings (defScope st__law_wirings) := ⟨rfl, rfl, rfl, by decide +kernel, rfl, by decide +kernel, by decide +kernel⟩
abbrev st__law_has : Stmt := top 69
abbrev nm__law_has : List Str := ["_law_s", "_law_state", "_law_one", "_law_turn"]
abbrev ps__law_has : List Str := ["_law_s", "_law_state", "_law_one"]
theorem sc__law_has : FnScope nm__law_has ps__law_has (defScope st__law_has) := ⟨rfl, rfl, rfl, by decide +kernel, rfl, by decide +kernel, by decide +kernel⟩
abbrev st__law_lit : Stmt := top 70
abbrev nm__law_lit : List Str := ["_law_s", "_law_wiring", "_law_state", "_law_k"]
abbrev ps__law_lit : List Str := ["_law_s", "_law_wiring", "_law_state"]
theorem sc__law_lit : FnScope nm__law_lit ps__law_lit (defScope st__law_lit) := ⟨rfl, rfl, rfl, by decide +kernel, rfl, by decide +kernel, by decide +kernel⟩
abbrev st__law_under : Stmt := top 71
abbrev nm__law_under : List Str := ["_law_s", "_law_one", "_law_breaker", "_law_turn"]
abbrev ps__law_under : List Str := ["_law_s", "_law_one", "_law_breaker"]
theorem sc__law_under : FnScope nm__law_under ps__law_under (defScope st__law_under) := ⟨rfl, rfl, rfl, by decide +kernel, rfl, by decide +kernel, by decide +kernel⟩
abbrev st__law_flows : Stmt := top 72
abbrev nm__law_flows : List Str := ["_law_s", "_law_wiring", "_law_state", "_law_loads_here", "_law_lit_here", "_law_found", "_law_breaker", "_law_k"]
abbrev ps__law_flows : List Str := ["_law_s", "_law_wiring", "_law_state", "_law_loads_here"]
theorem sc__law_flows : FnScope nm__law_flows ps__law_flows (defScope st__law_flows) := ⟨rfl, rfl, rfl, by decide +kernel, rfl, by decide +kernel, by decide +kernel⟩
abbrev st__law_tripped : Stmt := top 73
abbrev nm__law_tripped : List Str := ["_law_s", "_law_wiring", "_law_state", "_law_loads_here", "_law_numbers", "_law_turn", "_law_flows_here", "_law_k", "_law_over", "_law_first"]
abbrev ps__law_tripped : List Str := ["_law_s", "_law_wiring", "_law_state", "_law_loads_here"]
theorem sc__law_tripped : FnScope nm__law_tripped ps__law_tripped (defScope st__law_tripped) := ⟨rfl, rfl, rfl, by decide +kernel, rfl, by decide +kernel, by decide +kernel⟩
abbrev st__law_loads : Stmt := top 74
abbrev nm__law_loads : List Str := ["_law_row", "_law_s", "_law_found", "_law_point"]
abbrev ps__law_loads : List Str := ["_law_row", "_law_s"]
theorem sc__law_loads : FnScope nm__law_loads ps__law_loads (defScope st__law_loads) := ⟨rfl, rfl, rfl, by decide +kernel, rfl, by decide +kernel, by decide +kernel⟩
abbrev st__law_day : Stmt := top 75
abbrev nm__law_day : List Str := ["_law_s", "_law_wiring", "_law_loads_here", "_law_timers", "_law_number", "_law_state", "_law_found", "_law_hour", "_law_drawn", "_law_name", "_law_timer", "_law_numbers", "_law_breaker"]
abbrev ps__law_day : List Str := ["_law_s", "_law_wiring", "_law_loads_here", "_law_timers", "_law_number"]
theorem sc__law_day : FnScope nm__law_day ps__law_day (defScope st__law_day) := ⟨rfl, rfl, rfl, by decide +kernel, rfl, by decide +kernel, by decide +kernel⟩
abbrev st_law : Stmt := top 76
abbrev nm_law : List Str := ["_law_script", "_law_row", "_law_s", "_law_one", "_law_loads_here", "_law_timers", "_law_point", "_law_begin", "_law_number", "_law_days", "_law_counts", "_law_breaker", "_law_some", "_law_hour", "_law_trip", "_law_first", "_law_many", "_law_far", "_law_rest", "_law_due", "_law_quiet"]
abbrev ps_law : List Str := ["_law_script"]
theorem sc_law : FnScope nm_law ps_law (defScope st_law) := ⟨rfl, rfl, rfl, by decide +kernel, rfl, by decide +kernel, by decide +kernel⟩
end Bf
set_option Elab.async false
set_option linter.all false
set_option maxRecDepth 100000
set_option maxHeartbeats 0
namespace BfT
open Bf
open PySem PySem.W PySem.Calls PyProof.Rows
abbrev R : OpenRow := OpenLaw.row PySem.Challenge.rw_blindfuses_k72_whole_days_hour_by_hour
abbrev qv : Program := view R.prog [76]
def names0 : List PySem.Str := [("FuseError" : PySem.Str), ("InvalidPlan" : PySem.Str), ("InvalidWiring" : PySem.Str), ("InvalidLoads" : PySem.Str), ("UnknownBreaker" : PySem.Str), ("InvalidNumber" : PySem.Str), ("InvalidTimers" : PySem.Str), ("LETTERS" : PySem.Str), ("MAX_LETTERS" : PySem.Str), ("MAX_BREAKERS" : PySem.Str), ("MAX_RATE" : PySem.Str), ("MAX_POINTS" : PySem.Str)]
def names1 : List PySem.Str := [("MAX_ROOM" : PySem.Str), ("LAMP" : PySem.Str), ("PLUG" : PySem.Str), ("FREE" : PySem.Str), ("ROOMS" : PySem.Str), ("is_number" : PySem.Str), ("is_word" : PySem.Str), ("are_rates" : PySem.Str), ("are_above" : PySem.Str), ("is_point" : PySem.Str), ("are_points" : PySem.Str), ("Plan" : PySem.Str)]
def names2 : List PySem.Str := [("does_follow" : PySem.Str), ("is_wiring" : PySem.Str), ("check_wiring" : PySem.Str), ("check_breaker" : PySem.Str), ("all_on" : PySem.Str), ("line_up" : PySem.Str), ("MAX_LOAD" : PySem.Str), ("has_power" : PySem.Str), ("wrong_load" : PySem.Str), ("check_loads" : PySem.Str), ("currents_in" : PySem.Str), ("trips_in" : PySem.Str)]
def names3 : List PySem.Str := [("does_run" : PySem.Str), ("does_run_running" : PySem.Str), ("HOURS" : PySem.Str), ("MAX_EVERY" : PySem.Str), ("MAX_COUNT" : PySem.Str), ("MAX_SHIFTS" : PySem.Str), ("is_timer" : PySem.Str), ("check_timed" : PySem.Str), ("check_count" : PySem.Str), ("length_of" : PySem.Str), ("names_on" : PySem.Str), ("loads_at" : PySem.Str)]
def names4 : List PySem.Str := [("trips_of" : PySem.Str), ("day" : PySem.Str), ("day_rows" : PySem.Str), ("trips_until" : PySem.Str), ("first_day" : PySem.Str), ("Quiet" : PySem.Str), ("all_shifts" : PySem.Str), ("shifted" : PySem.Str), ("fewest_shifts" : PySem.Str), ("_law_taken" : PySem.Str), ("_law_pick" : PySem.Str), ("_law_mixed" : PySem.Str)]
def names5 : List PySem.Str := [("_law_scheme" : PySem.Str), ("_law_plan" : PySem.Str), ("_law_wirings" : PySem.Str), ("_law_has" : PySem.Str), ("_law_lit" : PySem.Str), ("_law_under" : PySem.Str), ("_law_flows" : PySem.Str), ("_law_tripped" : PySem.Str), ("_law_loads" : PySem.Str), ("_law_day" : PySem.Str)]
def names : List PySem.Str := names0 ++ names1 ++ names2 ++ names3 ++ names4 ++ names5

open L2
/-! ### the Hook: facts by names, defs at places -/
structure DA where
  at_ : PySem.W.Frag → Addr
  name : PySem.Str
  qual : PySem.Str
  st : Stmt
  dfl : List He.Dv := []
def fnA (K : PySem.W.Frag) (a : Addr) : He.FnW := match K.lookup a with
  | some ⟨_, _, .func fd, _⟩ => some (fd.name, fd.qualname, fd.params, fd.body, fd.scope, fd.globals, fd.closure, fd.builtins)
  | _ => none
def DA.val (d : DA) : He.FnW := some (d.name, d.qual, defArgs d.st, .stmts (defBody d.st), defScope d.st, mainGlobals, [], builtinsNs)
def DA.dvs (K : PySem.W.Frag) (d : DA) : List V := d.dfl.map (He.Dv.v K)
def DA.ok (K : PySem.W.Frag) (d : DA) : Bool := PySem.W.keepIn K (.ref (d.at_ K)) && (match K.lookup (d.at_ K) with
  | some ⟨_, _, .func fd, _⟩ => PySem.W.codeIn K fd.code d.qual && (He.dflB K fd.defaults (d.dvs K) && He.kwdB K fd.kwdefaults [])
  | _ => false)
theorem DA.funD {K : PySem.W.Frag} {d : DA} (e : fnA K (d.at_ K) = d.val) (c : d.ok K = true) : ∃ fd, FunD K d.name d.qual (defArgs d.st) (defBody d.st) (defScope d.st) (d.dvs K) [] (d.at_ K) fd := by
  obtain ⟨kp, c2⟩ := He.ba c
  unfold fnA at e
  cases q : K.lookup (d.at_ K) with
  | none =>
    rw [q] at c2
    cases c2
  | some o =>
    obtain ⟨oc, od, dt, osl⟩ := o
    rw [q] at c2 e
    cases dt with
    | func fd =>
      obtain ⟨n1, n2, n3, n4, n5, n6, n7, n8, n9, n10, n11, n12, n13, n14, n15⟩ := fd
      have e2 : (some (n1, n2, n3, n4, n5, n6, n7, n15) : He.FnW) = some (d.name, d.qual, defArgs d.st, .stmts (defBody d.st), defScope d.st, mainGlobals, [], builtinsNs) := e
      simp only [Option.some.injEq, Prod.mk.injEq] at e2
      obtain ⟨h1, h2, h3, h4, h5, h6, h7, h8⟩ := e2
      subst h1 h2 h3 h4 h5 h6 h7 h8
      have c3 : (PySem.W.codeIn K n13 d.qual && (He.dflB K n8 (d.dvs K) && He.kwdB K n9 [])) = true := c2
      obtain ⟨k1, k2⟩ := He.ba c3
      obtain ⟨k3, k4⟩ := He.ba k2
      exact ⟨_, ⟨oc, od, n8, n9, n10, n11, n12, n13, n14, osl, rfl, q, k1, He.dflB_ok k3, He.kwdB_ok k4⟩, kp⟩
    | _ => cases c2
def gad (K : PySem.W.Frag) (f : PySem.Str) : Addr := match PySem.W.recIn K (He.ma K (He.ga K "Plan") f) "property" with
  | some (.ref g :: _) => g
  | _ => 0
def prB (K : PySem.W.Frag) (f : PySem.Str) : Bool := He.eqO (PySem.W.findIn K (.ref (He.ga K "Plan")) f) (some (some (.ref (He.ma K (He.ga K "Plan") f)))) && (He.eqO (PySem.W.specialIn K (.ref (He.ma K (He.ga K "Plan") f)) "__get__") (some (some (.builtin "property.__get__"))) && (decide (PySem.W.takesIn K (.ref (He.ma K (He.ga K "Plan") f)) = some true) && (match PySem.W.recIn K (He.ma K (He.ga K "Plan") f) "property" with
  | some (.ref _ :: _) => true
  | _ => false)))
/-- the plan's class, its slot; the second name of does_run -/
def exB (K : PySem.W.Frag) : Bool := (PySem.W.plainGet K (He.ga K "Plan") PySem.Str.empty && (PySem.W.isClsIn K (He.ga K "Plan") && (PySem.W.plainOver K (He.ga K "Plan") && He.eqO (PySem.W.findIn K (.ref (He.ga K "Plan")) "__setattr__") (some (some (.builtin "object.__setattr__")))))) &&
  ((He.eqO (PySem.W.findIn K (.ref (He.ga K "Plan")) "parts") (some (some (.ref (He.ma K (He.ga K "Plan") "parts")))) && (He.eqO (PySem.W.specialIn K (.ref (He.ma K (He.ga K "Plan") "parts")) "__get__") (some (some (.builtin "member_descriptor.__get__"))) && (decide (PySem.W.takesIn K (.ref (He.ma K (He.ga K "Plan") "parts")) = some true) && (decide (PySem.W.typeIn K (.ref (He.ma K (He.ga K "Plan") "parts")) = some (.type "member_descriptor")) && decide (PySem.W.slotIn K (He.ma K (He.ga K "Plan") "parts") (He.ga K "Plan") = some 0))))) &&
  (decide (He.ga K "does_run_running" = He.ga K "does_run") && (prB K "rates" && (prB K "above" && (prB K "points" && (prB K "rule" && prB K "names"))))))
def obB (fa : List He.Fa) (das : List DA) (K : PySem.W.Frag) : Bool × List He.FnW := ((fa.all fun f => f.ok K) && (exB K && das.all fun d => d.ok K), das.map fun d => fnA K (d.at_ K))
def hookB (n : Nat) (fa : List He.Fa) (das : List DA) : PySem.W.Hook where
  α := Bool × List He.FnW
  obs := fun s => obB fa das (He.frG s.heap.get? (He.asD s.heap.get? n))
  val := fun _ => (true, das.map DA.val)
  says := fun _ h => ∃ K : PySem.W.Frag, K.In h ∧ obB fa das K = (true, das.map DA.val)
  of := fun _ _ e => ⟨_, He.frG_in, e⟩
  keeps := fun _ _ _ ⟨K, hK, c⟩ k => ⟨K, PySem.W.Frag.In.keeps hK k, c⟩
def das : List DA := [⟨fun K => He.ga K "law", "law", "law", st_law, []⟩, ⟨fun K => He.ga K "is_number", "is_number", "is_number", st_is_number, []⟩, ⟨fun K => He.ga K "is_word", "is_word", "is_word", st_is_word, []⟩, ⟨fun K => He.ga K "are_rates", "are_rates", "are_rates", st_are_rates, []⟩, ⟨fun K => He.ga K "line_up", "line_up", "line_up", st_line_up, []⟩, ⟨fun K => He.ga K "is_point", "is_point", "is_point", st_is_point, []⟩, ⟨fun K => He.ga K "are_points", "are_points", "are_points", st_are_points, []⟩, ⟨fun K => He.ga K "all_on", "all_on", "all_on", st_all_on, []⟩, ⟨fun K => He.ga K "has_power", "has_power", "has_power", st_has_power, []⟩, ⟨fun K => He.ga K "does_follow", "does_follow", "does_follow", st_does_follow, []⟩, ⟨fun K => He.ga K "is_wiring", "is_wiring", "is_wiring", st_is_wiring, []⟩, ⟨fun K => He.ga K "check_wiring", "check_wiring", "check_wiring", st_check_wiring, []⟩, ⟨fun K => He.ga K "check_breaker", "check_breaker", "check_breaker", st_check_breaker, []⟩, ⟨fun K => He.ga K "check_count", "check_count", "check_count", st_check_count, []⟩, ⟨fun K => He.ga K "is_timer", "is_timer", "is_timer", st_is_timer, []⟩, ⟨fun K => He.ga K "currents_in", "currents_in", "currents_in", st_currents_in, []⟩, ⟨fun K => He.ga K "are_above", "are_above", "are_above", st_are_above, []⟩, ⟨fun K => He.ga K "wrong_load", "wrong_load", "wrong_load", st_wrong_load, []⟩, ⟨fun K => He.ga K "check_loads", "check_loads", "check_loads", st_check_loads, []⟩, ⟨fun K => He.ga K "check_timed", "check_timed", "check_timed", st_check_timed, []⟩, ⟨fun K => He.ga K "names_on", "names_on", "names_on", st_names_on, []⟩, ⟨fun K => He.ga K "trips_in", "trips_in", "trips_in", st_trips_in, []⟩, ⟨fun K => He.ga K "does_run", "does_run", "does_run", st_does_run, []⟩, ⟨fun K => He.ga K "loads_at", "loads_at", "loads_at", st_loads_at, []⟩, ⟨fun K => He.ga K "trips_of", "trips_of", "trips_of", st_trips_of, []⟩, ⟨fun K => He.ga K "day", "day", "day", st_day, []⟩, ⟨fun K => He.ga K "length_of", "length_of", "length_of", st_length_of, []⟩, ⟨fun K => He.ga K "day_rows", "day_rows", "day_rows", st_day_rows, []⟩, ⟨fun K => He.ga K "trips_until", "trips_until", "trips_until", st_trips_until, []⟩, ⟨fun K => He.ga K "first_day", "first_day", "first_day", st_first_day, []⟩, ⟨fun K => He.ga K "_law_plan", "_law_plan", "_law_plan", st__law_plan, []⟩, ⟨fun K => He.ga K "all_shifts", "all_shifts", "all_shifts", st_all_shifts, []⟩, ⟨fun K => He.ga K "shifted", "shifted", "shifted", st_shifted, []⟩, ⟨fun K => He.ga K "fewest_shifts", "fewest_shifts", "fewest_shifts", st_fewest_shifts, []⟩, ⟨fun K => He.ga K "_law_taken", "_law_taken", "_law_taken", st__law_taken, []⟩, ⟨fun K => He.ga K "_law_pick", "_law_pick", "_law_pick", st__law_pick, []⟩, ⟨fun K => He.ga K "_law_mixed", "_law_mixed", "_law_mixed", st__law_mixed, []⟩, ⟨fun K => He.ga K "_law_loads", "_law_loads", "_law_loads", st__law_loads, []⟩, ⟨fun K => He.ga K "_law_has", "_law_has", "_law_has", st__law_has, []⟩, ⟨fun K => He.ga K "_law_lit", "_law_lit", "_law_lit", st__law_lit, []⟩, ⟨fun K => He.ga K "_law_under", "_law_under", "_law_under", st__law_under, []⟩, ⟨fun K => He.ga K "_law_flows", "_law_flows", "_law_flows", st__law_flows, []⟩, ⟨fun K => He.ga K "_law_tripped", "_law_tripped", "_law_tripped", st__law_tripped, []⟩, ⟨fun K => He.ga K "_law_wirings", "_law_wirings", "_law_wirings", st__law_wirings, []⟩, ⟨fun K => He.ga K "_law_day", "_law_day", "_law_day", st__law_day, []⟩, ⟨fun K => He.ga K "_law_scheme", "_law_scheme", "_law_scheme", st__law_scheme, []⟩, ⟨fun K => He.ma K (He.ga K "Quiet") "__init__", "__init__", "Quiet.__init__", st_Quiet___init__, []⟩, ⟨fun K => He.ma K (He.ga K "Quiet") "does_run", "does_run", "Quiet.does_run", st_Quiet_does_run, []⟩, ⟨fun K => He.ma K (He.ga K "Quiet") "is_quiet", "is_quiet", "Quiet.is_quiet", st_Quiet_is_quiet, []⟩, ⟨fun K => He.ma K (He.ga K "Plan") "__len__", "__len__", "Plan.__len__", st_Plan___len__, []⟩, ⟨fun K => He.ma K (He.ga K "Plan") "__init__", "__init__", "Plan.__init__", st_Plan___init__, [.str "free"]⟩, ⟨fun K => gad K "rates", "rates", "Plan.rates", st_Plan_rates, []⟩, ⟨fun K => gad K "above", "above", "Plan.above", st_Plan_above, []⟩, ⟨fun K => gad K "points", "points", "Plan.points", st_Plan_points, []⟩, ⟨fun K => gad K "rule", "rule", "Plan.rule", st_Plan_rule, []⟩, ⟨fun K => gad K "names", "names", "Plan.names", st_Plan_names, []⟩]
def fas : List He.Fa := [.free "len", .free "int", .free "bool", .free "str", .free "tuple", .free "list", .free "range", .free "sum", .free "all", .free "isinstance", .free "min", .free "sorted", .free "set", .free "dict", .free "zip", .free "enumerate", .int "MAX_LETTERS" 8, .int "MAX_BREAKERS" 5, .int "MAX_RATE" 99, .int "MAX_POINTS" 5, .int "MAX_ROOM" 9, .int "MAX_LOAD" 99, .int "HOURS" 24, .int "MAX_EVERY" 9, .int "MAX_COUNT" 1000000000000000000, .int "MAX_SHIFTS" 2, .str "LETTERS" "abcdefghijklmnopqrstuvwxyz", .str "LAMP" "lamp", .str "PLUG" "plug", .str "FREE" "free", .str "ROOMS" "rooms", .glo "law", .glo "is_number", .glo "is_word", .glo "are_rates", .glo "line_up", .glo "is_point", .glo "are_points", .glo "all_on", .glo "has_power", .glo "does_follow", .glo "is_wiring", .glo "check_wiring", .glo "check_breaker", .glo "check_count", .glo "is_timer", .glo "currents_in", .glo "are_above", .glo "wrong_load", .glo "check_loads", .glo "check_timed", .glo "names_on", .glo "trips_in", .glo "does_run", .glo "loads_at", .glo "trips_of", .glo "day", .glo "length_of", .glo "day_rows", .glo "trips_until", .glo "first_day", .glo "_law_plan", .glo "all_shifts", .glo "shifted", .glo "fewest_shifts", .glo "_law_taken", .glo "_law_pick", .glo "_law_mixed", .glo "_law_loads", .glo "_law_has", .glo "_law_lit", .glo "_law_under", .glo "_law_flows", .glo "_law_tripped", .glo "_law_wirings", .glo "_law_day", .glo "_law_scheme", .glo "does_run_running", .glo "Plan", .glo "Quiet", .cls "Quiet", .noat "Quiet" "plan", .noat "Quiet" "wiring", .noat "Quiet" "loads", .noat "Quiet" "kinds", .noat "Quiet" "known", .meth "Quiet" "does_run", .meth "Quiet" "is_quiet", .mkr "Plan", .mkr "Quiet", .meth "Plan" "__len__"]
abbrev hk : PySem.W.Hook := hookB 6 fas das
def ob (s : PySem.W.SharedT) : Bool × List He.FnW := obB fas das (He.frG (HandSHeadRun.getT s) (He.asD (HandSHeadRun.getT s) 6))
theorem ob_eq (s : PySem.W.SharedT) : ob s = hk.obs s.abs := by
  have e : HandSHeadRun.getT s = s.abs.heap.get? := funext (HandSHeadRun.getT_eq s)
  show obB fas das (He.frG (HandSHeadRun.getT s) (He.asD (HandSHeadRun.getT s) 6)) = obB fas das (He.frG s.abs.heap.get? (He.asD s.abs.heap.get? 6))
  rw [e]
theorem run (w : World) : HandSHeadRun.RunEq R qv hk ob 12000 names w := by
  intro os
  kernel_rfl
end BfT
set_option Elab.async false
set_option linter.all false
set_option maxRecDepth 100000
set_option maxHeartbeats 2000000
/-! Own layer, part 5: the plan as an object, its properties, own lists changed by place, texts compared. -/
namespace Bf
open PySem PyProof.Rows L2
/-! ### the data of a plan -/
structure PlanD where
  rates : List Int
  above : List (Option Nat)
  points : List (Str × Str × Int)
  rule : Str
def eOpt : Option Nat → PyData
  | none => .none
  | some n => .int (n : Int)
def eRates (p : List Int) : PyData := .tuple (p.map PyData.int)
def eOpts (p : List (Option Nat)) : PyData := .tuple (p.map eOpt)
def ePoint (p : Str × Str × Int) : PyData := .tuple [.str p.1, .str p.2.1, .int p.2.2]
def ePoints (p : List (Str × Str × Int)) : PyData := .tuple (p.map ePoint)
def eNames (p : List Str) : PyData := .tuple (p.map PyData.str)
def eBools (p : List Bool) : PyData := .tuple (p.map PyData.bool)
def eParts (p : PlanD) : List PyData := [eRates p.rates, eOpts p.above, ePoints p.points, .str p.rule]
def PlanD.names (p : PlanD) : List Str := p.points.map (·.1)
/-- v is a Plan with these data -/
def Pl (K : PySem.W.Frag) (C : Addr) (pl : PlanD) : V → Hp → Prop := fun v G => ∃ a dx q, v = .ref a ∧ G a = some (SlX.SlO a C dx [some (.ref q)]) ∧ G dx = some (.xd []) ∧ D K (.tuple (eParts pl)) (.ref q) G ∧ pl.points.length ≤ 5
theorem Pl.n {K : PySem.W.Frag} {C : Addr} {pl : PlanD} {v : V} {G : Hp} (h : Pl K C pl v G) : pl.points.length ≤ 5 := by
  obtain ⟨a, dx, q, h1, h2, h3, h4, h5⟩ := h
  exact h5
theorem mo_Pl {K : PySem.W.Frag} {C : Addr} {pl : PlanD} : Mo (Pl K C pl) := fun v G G' e ⟨a, dx, q, h1, h2, h3, h4, h5⟩ => ⟨a, dx, q, h1, e _ _ h2, e _ _ h3, h4.ex e, h5⟩
/-! ### what of the text the class must have -/
structure PlF (K : PySem.W.Frag) (C : Addr) : Prop where
  sc : SlX.SCls K C
  sl : ∃ p, SlX.Slot1 K C "parts" p 0
/-- the property f: its getter keeps sp -/
structure PrX (P : Program) (w : World) (K : PySem.W.Frag) (mg : Str → Option Value) (base : Heap) (C : Addr) (k : Nat) (f : Str) (sp : Sp) : Prop where
  sc : SlX.SCls K C
  ex : ∃ p g, PySem.W.findIn K (.ref C) f = some (some (.ref p)) ∧ PySem.W.specialIn K (.ref p) "__get__" = some (some (.builtin "property.__get__")) ∧ PySem.W.takesIn K (.ref p) = some true ∧ (∃ rest, PySem.W.recIn K p "property" = some (.ref g :: rest)) ∧ FnR P w K mg base CX0 k g sp
/-- a method's (getter's) def as the top leaves it -/
structure Dm (K : PySem.W.Frag) (x qual : Str) (st : Stmt) (g : Addr) : Prop where
  ex : ∃ fd : FuncData, FunD K x qual (defArgs st) (defBody st) (defScope st) [] [] g fd
theorem fr_ok {P : Program} {w : World} {K : PySem.W.Frag} {mg : Str → Option Value} {base : Heap} {x qual : Str} {st : Stmt} {g : Addr} {N ps : List Str} {k : Nat} {sp : Sp} (F : Dm K x qual st g) (S : FnScope N ps (defScope st))
    (hb : ∀ (kV doc pm : Value) (an : Option Addr) (cdv ct : Value) (us : List Value), us.length = ps.length → bindArgs (PySem.W.fnOf x qual (defArgs st) (defBody st) (defScope st) .none kV doc pm an cdv ct) ⟨us, []⟩ = pure (ps.zip us))
    (len : ∀ vs H Q E, sp vs H Q E → vs.length = ps.length)
    (hbody : ∀ (cdv : Value) (A : Around) (outer : List Env) (s : Shared) (H : Hp) (vs : List V) (Q : VK) (E : XK), Room k (A.deeper (envOfC qual (defScope st) s.heap.objs.size g cdv)) → sp vs H Q E →
      ∃ t, PSs (cxOf CX0 P w K mg base N qual (defScope st) g cdv A outer s H E).nox (defBody st) t ∧ t { nx := fun _ H' => Q .non H', rt := Q } (start N vs) H) : ∃ fd, FnOk P w K mg base CX0 (k + 1) g fd ps sp ∧ Binds K fd ps [] := by
  obtain ⟨fd, h1⟩ := F.ex
  exact ⟨fd, FunD.ok h1 S len fun cdv A outer s H vs Q E hr hsp => by
    obtain ⟨t, p, q⟩ := hbody cdv A outer s H vs Q E hr hsp
    exact ⟨t, p.nox, q⟩, h1.bindsN hb⟩
theorem fr_raw {P : Program} {w : World} {K : PySem.W.Frag} {mg : Str → Option Value} {base : Heap} {k : Nat} {g : Addr} {ps : List Str} {sp : Sp} (h : ∃ fd, FnOk P w K mg base CX0 k g fd ps sp ∧ Binds K fd ps []) : FnR P w K mg base CX0 k g sp := by
  obtain ⟨fd, h1, h2⟩ := h
  have z := h1.raw h2 .nil
  refine FnR.imp z fun vs H Q E q => ?_
  rw [List.append_nil]
  exact q
section
variable {X : Cx} {C : Addr} {k : Nat} {f : Str} {sp : Sp} {e : Expr} {pos : Pos} {ta : TE}
theorem pe_propX (h : PrX X.prog X.w X.K X.mg X.base C k f sp) (hr : Room (k + 1) X.A) (he : PE X e ta) (hb : attributeBase e f X.env (eval e X.env) = eval e X.env := by rfl) : PE X (.Attribute e f pos) (SlX.tPropSl C sp E0 ta) := by
  obtain ⟨p, g, h1, h2, h3, h4, h5⟩ := h.ex
  exact SlX.pe_propSl he h.sc h1 h2 h3 h4 h5 hr (fun _ _ _ _ z => z) hb
end
/-! ### len(plan): the class's own __len__ -/
structure LnX (P : Program) (w : World) (K : PySem.W.Frag) (mg : Str → Option Value) (base : Heap) (C : Addr) (k : Nat) (sp : Sp) : Prop where
  ex : ∃ g, PySem.W.findIn K (.ref C) "__len__" = some (some (.ref g)) ∧ PySem.W.isFn K (.ref g) = true ∧ FnR P w K mg base CX0 k g sp
def rLenO (C : Addr) (sp : Sp) : List V → Hp → VK → Prop := fun xs H Q => ∃ a dx vs, xs = [.ref a] ∧ SlX.Slt H a C dx vs ∧ sp [.ref a] H (fun z H' => ∃ i : Int, z = .int i ∧ (0 ≤ i ∧ i < 2 ^ 63) ∧ Q z H') E0
theorem call_lenO {X : Cx} {C : Addr} {k : Nat} {sp : Sp} (h : LnX X.prog X.w X.K X.mg X.base C k sp) (hr : Room (k + 1) X.A) : CallR X (.builtin "len") (rLenO C sp) := by
  intro pins s σ H xs us Q I r hq
  obtain ⟨a, dx, vs, rfl, hsl, q⟩ := hq
  obtain ⟨u, rfl, ru⟩ := vals1 r
  cases (show u = Value.ref a from ru)
  obtain ⟨g, h1, h2, F⟩ := h.ex
  obtain ⟨sl, od, _, J, _⟩ := SlX.slt_inst I hsl
  obtain ⟨m, hF⟩ := I.fr
  refine PySem.W.len_K hF I.ok.mod.kin J h1 h2 (wpAny_mono (wpAny_call (SlX.run_at (us := [.ref a]) (ws := [.ref a]) F hr.in1 I.env0.in1 pass0 I (.cons rfl .nil) q)) (fun v s' z => ?_) fun _ _ x => x)
  obtain ⟨z', H', I', rz, i, ei, hb, qz⟩ := z
  subst ei
  obtain ⟨t, e⟩ := (show ∃ t, v = Value.int i t from rz)
  cases e
  exact ⟨hb, .int i, H', I'.tok _, ⟨_, rfl⟩, qz⟩
/-! ### xs[i], by values; texts compared; one sign in a text -/
def rGetL (K : PySem.W.Frag) : V → V → Hp → VK → Prop := fun o i H Q => ∃ p xs, ∃ (j : Nat) (v : V), o = .ref p ∧ i = .int j ∧ SqL K H p xs ∧ xs[j]? = some v ∧ Q v H
theorem pget_list {X : Cx} : PGet X (rGetL X.K) := by
  intro pins s σ H o i ov iv Q I ro ri h
  obtain ⟨p, xs, j, v, rfl, rfl, hl, hx, q⟩ := h
  obtain ⟨its, r, pl, hz⟩ := I.list hl
  cases (show ov = Value.ref p from ro)
  obtain ⟨t, rfl⟩ := (show ∃ t, iv = Value.int (j : Int) t from ri)
  obtain ⟨u, e1, e2⟩ := r.get hx
  have hlt : j < xs.length := (List.getElem?_eq_some_iff.mp hx).1
  have hn := line63
  exact wpAny_getItem_list pl.isList (by omega) (by omega) (by rw [Int.toNat_natCast]; simpa using e1) ⟨v, H, I, e2, q⟩
def rLtS : R2 := fun x y H Q => ∃ i j, x = .str i ∧ y = .str j ∧ Q (.bl (decide (i.cps.toList < j.cps.toList))) H
theorem op_ltS {X : Cx} : OpR X (compareOp .Lt) rLtS := op_lt_str
def rInS : R2 := fun x y H Q => ∃ (c : Nat) (z : Str), x = .str ⟨#[c]⟩ ∧ y = .str z ∧ Q (.bl (decide (c ∈ z.cps.toList))) H
theorem op_inS {X : Cx} : OpR X (compareOp .In) rInS := op_in_sign
section
variable {K : PySem.W.Frag} {σ : St} {G G' F : Hp} {ta tb te tx td ty to ti : TE} {t u : TT} {P P' P1 P2 : V → Hp → Prop} {v : V} {E : Ends} {tz : TS}
theorem ev_ltS {a b : Str} (ha : Ev ta σ G (D K (.str a))) (hb : Ev tb σ G (D K (.str b))) : Ev (tOp rLtS ta tb) σ G (D K (.bool (decide (a.cps.toList < b.cps.toList)))) :=
  ev_op ha hb mo_D fun x y G1 F Q e d p1 p2 q => ⟨a, b, p1.str, p2.str, q _ G1 (Ex.refl _) d (dBl _)⟩
theorem ev_inS {c : Nat} {z : Str} (ha : Ev ta σ G (D K (.str ⟨#[c]⟩))) (hb : Ev tb σ G (D K (.str z))) : Ev (tOp rInS ta tb) σ G (D K (.bool (decide (c ∈ z.cps.toList)))) :=
  ev_op ha hb mo_D fun x y G1 F Q e d p1 p2 q => ⟨c, z, p1.str, p2.str, q _ G1 (Ex.refl _) d (dBl _)⟩
/-- a property of the plan -/
theorem ev_prop {C : Addr} {pl : PlanD} {sp : PlanD → V → Hp → Prop} {Sp' : Sp} (ha : Ev ta σ G (Pl K C pl)) (hs : Sp' = FnS 1 (fun pl => [Pl K C pl]) (fun _ => True) sp) : Ev (SlX.tPropSl C Sp' E0 ta) σ G (sp pl) := fun G1 a F dj Q q =>
  ha G1 a F dj _ fun x G2 e2 d2 p => by
    obtain ⟨b, dx, z, rfl, h1, h2, h3⟩ := id p
    subst hs
    exact ⟨b, dx, _, rfl, .inr ⟨un_l h1, un_l h2⟩, rfl, pl, G2, F, rfl, d2, .cons p .nil, trivial, fun v G3 e3 d3 p3 => q v G3 (e2.trans e3) d3 p3⟩
theorem ev_lenO {C : Addr} {pl : PlanD} {Sp' : Sp} (ha : Ev ta σ G (Pl K C pl)) (hs : Sp' = FnS 1 (fun pl => [Pl K C pl]) (fun _ => True) (fun pl => D K (.int pl.rates.length))) (hb : pl.rates.length ≤ 100) : Ev (tCB (rLenO C Sp') (tCons ta tNil)) σ G (D K (.int pl.rates.length)) := ev_cb1 ha mo_Pl fun x G1 F Q e d p q => by
  obtain ⟨b, dx, z, rfl, h1, h2, h3⟩ := id p
  subst hs
  exact ⟨b, dx, _, rfl, .inr ⟨un_l h1, un_l h2⟩, rfl, pl, G1, F, rfl, d, .cons p .nil, trivial, fun v G3 e3 d3 p3 => ⟨_, p3.int, ⟨by omega, by omega⟩, by rw [p3.int]; exact q _ G3 e3 d3 (dInt _)⟩⟩
/-- xs[j] += e, xs one's own list of ints -/
theorem s_augL {l : Addr} {i : Nat} {xs : List V} {j : Nat} {a b : Int} (dj : Dj G F) (hl : F l = some (.lst xs)) (ha : σ[i]? = some (some (.ref l))) (hj : ∀ G', Ex G G' → Ev ti σ G' (D K (.int j))) (hx : xs[j]? = some (.int a)) (he : ∀ G', Ex G G' → Ev te σ G' (D K (.int b)))
    (k : ∀ G', Ex G G' → Dj G' (upd F l (.lst (xs.set j (.int (a + b))))) → tz E σ (un G' (upd F l (.lst (xs.set j (.int (a + b))))))) : tSeq (tAugS (tVar i) ti te (rGetL K) (ipI fun i j => i + j) rSetL) tz E σ (un G F) :=
  ⟨_, ha, (hj G (Ex.refl _)).run dj fun v G2 e2 d2 p => by
    obtain rfl := p.int
    refine ⟨l, xs, j, _, rfl, rfl, SqL.of (un_r d2 hl), hx, (he G2 e2).run d2 fun w G3 e3 d3 p3 => ?_⟩
    obtain rfl := p3.int
    have hlt : j < xs.length := (List.getElem?_eq_some_iff.mp hx).1
    refine ⟨a, b, rfl, rfl, l, xs, j, j, rfl, rfl, un_r d3 hl, ?_, ?_⟩
    · unfold ixN
      rw [if_pos (by omega), if_pos (by omega), Int.toNat_natCast]
    · have n1 : G3 l = none := d3.n hl
      show tz E σ (upd (un G3 F) l (.lst (xs.set j (.int (a + b)))))
      rw [upd_r n1]
      exact k G3 (e2.trans e3) (d3.newR n1)⟩
/-- a starred list in a display: [e, *xs] -/
theorem ev_cons {d : PyData} {ds : List PyData} (ha : Ev ta σ G (D K d)) (hb : Ev tb σ G (D K (.list ds))) (hl : ds.length < 1000) : Ev (tLst (tCons ta (StX.tStar K tb tNil))) σ G (Lx K (d :: ds)) := fun G1 a F dj Q q =>
  ha G1 a F dj _ fun x G2 e2 d2 p => hb G2 (a.trans e2) F d2 _ fun y G3 e3 d3 p2 => by
    obtain ⟨b, xs, rfl, h1, h2⟩ := p2.lst
    refine ⟨b, xs, rfl, .inr (sqL_ex ex_un h1), ?_, fun l hn => ?_⟩
    · refine Nat.le_of_lt (small1000 ?_)
      have := dpA_len h2
      show (xs ++ []).length + 1 ≤ 1000
      rw [List.append_nil]
      omega
    · obtain ⟨n1, n2⟩ := un_no hn
      rw [List.append_nil, upd_l]
      exact q _ _ ((e2.trans e3).trans (Ex.new n1)) (d3.newL n2) ⟨l, _, rfl, upd_same, .cons ((p.ex e3).ex (Ex.new n1)) (dpA_ex (Ex.new n1) _ _ h2)⟩
end
end Bf
set_option Elab.async false
set_option linter.all false
set_option maxRecDepth 100000
set_option maxHeartbeats 2000000
/-! The mirrors: what the program's defs compute, over plain data. -/
namespace Bf
open PySem L2
/-! ### the tree -/
def Tree (above : List (Option Nat)) : Prop := ∀ b p : Nat, above[b]? = some (some p) → p < b
def up (above : List (Option Nat)) (b : Nat) : Option Nat := above.getD b none
def anc (above : List (Option Nat)) : Nat → Nat → List Nat
  | 0, b => [b]
  | n + 1, b => match up above b with
    | none => [b]
    | some p => anc above n p ++ [b]
def lineUp (above : List (Option Nat)) (b : Nat) : List Nat := anc above b b
theorem up_lt {above : List (Option Nat)} (T : Tree above) {b p : Nat} (h : up above b = some p) : p < b := by
  unfold up at h
  rw [List.getD_eq_getElem?_getD] at h
  cases e : above[b]? with
  | none => rw [e] at h; cases h
  | some o =>
    rw [e] at h
    have h : o = some p := h
    subst h
    exact T b p e
theorem anc_fuel {above : List (Option Nat)} (T : Tree above) : ∀ (n m b : Nat), b ≤ n → b ≤ m → anc above n b = anc above m b
  | 0, 0, b, _, _ => rfl
  | 0, m + 1, b, h1, h2 => by
    have e : b = 0 := by omega
    subst e
    unfold anc
    cases e : up above 0 with
    | none => rfl
    | some p => exact absurd (up_lt T e) (Nat.not_lt_zero _)
  | n + 1, 0, b, h1, h2 => by
    have e : b = 0 := by omega
    subst e
    unfold anc
    cases e : up above 0 with
    | none => rfl
    | some p => exact absurd (up_lt T e) (Nat.not_lt_zero _)
  | n + 1, m + 1, b, h1, h2 => by
    unfold anc
    cases e : up above b with
    | none => rfl
    | some p =>
      have := up_lt T e
      show anc above n p ++ [b] = anc above m p ++ [b]
      rw [anc_fuel T n m p (by omega) (by omega)]
theorem lineUp_none {above : List (Option Nat)} {b : Nat} (h : up above b = none) : lineUp above b = [b] := by
  unfold lineUp
  cases b with
  | zero => rfl
  | succ n => unfold anc; rw [h]
theorem lineUp_some {above : List (Option Nat)} (T : Tree above) {b p : Nat} (h : up above b = some p) : lineUp above b = lineUp above p ++ [b] := by
  have hp := up_lt T h
  unfold lineUp
  cases b with
  | zero => omega
  | succ n =>
    show (match up above (n + 1) with | none => [n + 1] | some p => anc above n p ++ [n + 1]) = _
    rw [h]
    show anc above n p ++ [n + 1] = anc above p p ++ [n + 1]
    rw [anc_fuel T n p p (by omega) (Nat.le_refl _)]
theorem lineUp_le {above : List (Option Nat)} (T : Tree above) : ∀ (n b : Nat), b ≤ n → ∀ i ∈ lineUp above b, i ≤ b := by
  intro n
  induction n with
  | zero =>
    intro b hb i hi
    have e : b = 0 := by omega
    subst e
    have hi : i ∈ ([0] : List Nat) := hi
    simp at hi
    omega
  | succ n ih =>
    intro b hb i hi
    cases e : up above b with
    | none =>
      rw [lineUp_none e] at hi
      simp at hi
      omega
    | some p =>
      have hp := up_lt T e
      rw [lineUp_some T e] at hi
      rcases List.mem_append.mp hi with h | h
      · have := ih p (by omega) i h
        omega
      · simp at h
        omega
/-- a list of breakers' lines has nothing twice -/
theorem lineUp_nd {above : List (Option Nat)} (T : Tree above) : ∀ (n b : Nat), b ≤ n → (lineUp above b).Nodup := by
  intro n
  induction n with
  | zero =>
    intro b hb
    have e : b = 0 := by omega
    subst e
    show ([0] : List Nat).Nodup
    simp
  | succ n ih =>
    intro b hb
    cases e : up above b with
    | none => rw [lineUp_none e]; simp
    | some p =>
      have hp := up_lt T e
      rw [lineUp_some T e, List.nodup_append]
      refine ⟨ih p (by omega), by simp, fun a ha c hc => ?_⟩
      have := lineUp_le T p p (Nat.le_refl _) a ha
      simp at hc
      omega
theorem lineUp_len {above : List (Option Nat)} (T : Tree above) : ∀ (n b : Nat), b ≤ n → (lineUp above b).length ≤ b + 1 := by
  intro n
  induction n with
  | zero =>
    intro b hb
    have e : b = 0 := by omega
    subst e
    show ([0] : List Nat).length ≤ 1
    simp
  | succ n ih =>
    intro b hb
    cases e : up above b with
    | none => rw [lineUp_none e]; simp
    | some p =>
      have hp := up_lt T e
      rw [lineUp_some T e, List.length_append]
      have := ih p (by omega)
      simp
      omega
/-! ### power, currents, tripping -/
def hasPw (above : List (Option Nat)) (st : List Bool) : Option Nat → Bool
  | none => false
  | some b => (lineUp above b).all fun i => st.getD i false
def onLine (above : List (Option Nat)) (i : Nat) : Option Nat → Bool
  | none => false
  | some b => (lineUp above b).contains i
def loadOf (loads : List (Str × Int)) (n : Str) : Int := (getK loads n).getD 0
def addsTo (pl : PlanD) (st : List Bool) (i : Nat) (q : Str × Option Nat) : Bool := hasPw pl.above st q.2 && onLine pl.above i q.2
def curOf (pl : PlanD) (st : List Bool) (loads : List (Str × Int)) (qs : List (Str × Option Nat)) (i : Nat) : Int := ((qs.filter (addsTo pl st i)).map fun q => loadOf loads q.1).sum
def cur (pl : PlanD) (wir : List (Option Nat)) (st : List Bool) (loads : List (Str × Int)) (i : Nat) : Int := curOf pl st loads (pl.names.zip wir) i
def curs (pl : PlanD) (wir : List (Option Nat)) (st : List Bool) (loads : List (Str × Int)) : List Int := (List.range pl.rates.length).map (cur pl wir st loads)
def over (pl : PlanD) (wir : List (Option Nat)) (st : List Bool) (loads : List (Str × Int)) : List Nat := (List.range pl.rates.length).filter fun i => decide (pl.rates.getD i 0 < cur pl wir st loads i)
/-- j goes ahead of i -/
def ahead (rates : List Int) (j i : Nat) : Bool := decide (rates.getD j 0 < rates.getD i 0) || (decide (rates.getD j 0 = rates.getD i 0) && decide (i < j))
def pickN (rates : List Int) : Nat → List Nat → Nat
  | i, [] => i
  | i, j :: js => pickN rates (if ahead rates j i then j else i) js
def tripF (pl : PlanD) (wir : List (Option Nat)) (loads : List (Str × Int)) : Nat → List Bool → List Bool × List Nat
  | 0, st => (st, [])
  | n + 1, st => match over pl wir st loads with
    | [] => (st, [])
    | i :: is => ((tripF pl wir loads n (st.set (pickN pl.rates i is) false)).1, pickN pl.rates i is :: (tripF pl wir loads n (st.set (pickN pl.rates i is) false)).2)
def trips (pl : PlanD) (wir : List (Option Nat)) (st : List Bool) (loads : List (Str × Int)) : List Bool × List Nat := tripF pl wir loads pl.rates.length st
def allOn (pl : PlanD) : List Bool := List.replicate pl.rates.length true
/-! ### days -/
structure Tm where
  b : Nat
  e : Nat
  v : Nat
abbrev Timers := List (Str × Tm)
abbrev Loads := List (Str × Int)
def tmOf (ts : Timers) (n : Str) : Tm := (getK ts n).getD ⟨0, 24, 1⟩
def dayOn (ts : Timers) (number : Nat) (n : Str) : Bool := decide (number % (tmOf ts n).v = 0)
def hourOn (ts : Timers) (hour : Nat) (n : Str) : Bool := decide ((tmOf ts n).b ≤ hour) && decide (hour < (tmOf ts n).e)
def namesOn (loads : Loads) (ts : Timers) (number : Nat) : List Str := (loads.map Prod.fst).filter (dayOn ts number)
def loadsAt (loads : Loads) (ts : Timers) (names : List Str) (hour : Nat) : Loads := (names.filter (hourOn ts hour)).map fun n => (n, loadOf loads n)
def hourStep (pl : PlanD) (wir : List (Option Nat)) (ld : Nat → Loads) (a : List Bool × List (Nat × Nat)) (h : Nat) : List Bool × List (Nat × Nat) := ((trips pl wir a.1 (ld h)).1, a.2 ++ (trips pl wir a.1 (ld h)).2.map fun b => (h, b))
def tripsOf (pl : PlanD) (wir : List (Option Nat)) (ld : Nat → Loads) : List (Nat × Nat) := ((List.range 24).foldl (hourStep pl wir ld) (allOn pl, [])).2
def dayP (pl : PlanD) (wir : List (Option Nat)) (loads : Loads) (ts : Timers) (number : Nat) : List (Nat × Nat) := tripsOf pl wir (loadsAt loads ts (namesOn loads ts number))
def lenOf (ts : Timers) : Nat := ts.foldl (fun a t => Nat.lcm a t.2.v) 1
def rowsOf (pl : PlanD) (wir : List (Option Nat)) (loads : Loads) (ts : Timers) : List (List Nat) := (List.range (lenOf ts)).map fun n => (dayP pl wir loads ts n).map Prod.snd
/-- how often breaker b trips on day n -/
def cnt (pl : PlanD) (wir : List (Option Nat)) (loads : Loads) (ts : Timers) (b n : Nat) : Nat := ((dayP pl wir loads ts n).map Prod.snd).count b
def sumTo (f : Nat → Nat) (n : Nat) : Nat := ((List.range n).map f).sum
/-! ### what holds of the data -/
/-- the keys ascend -/
def Asc (l : List Str) : Prop := l.Pairwise fun a b => a.cps.toList < b.cps.toList
def lettersS : Str := "abcdefghijklmnopqrstuvwxyz"
def WordOk (s : Str) : Prop := 1 ≤ s.length ∧ s.length ≤ 8 ∧ ∀ c ∈ s.cps.toList, c ∈ lettersS.cps.toList
structure PlOk (pl : PlanD) : Prop where
  n1 : 1 ≤ pl.rates.length
  n2 : pl.rates.length ≤ 5
  rt : ∀ r ∈ pl.rates, 1 ≤ r ∧ r ≤ 99
  al : pl.above.length = pl.rates.length
  tr : Tree pl.above
  p1 : 1 ≤ pl.points.length
  p2 : pl.points.length ≤ 5
  nw : ∀ p ∈ pl.points, WordOk p.1
  pk : ∀ p ∈ pl.points, (p.2.1 = "lamp" ∨ p.2.1 = "plug") ∧ 0 ≤ p.2.2 ∧ p.2.2 ≤ 9
  na : Asc pl.names
  ru : pl.rule = "free" ∨ pl.rule = "rooms"
def WirOk (pl : PlanD) (wir : List (Option Nat)) : Prop := wir.length = pl.points.length ∧ ∀ b, some b ∈ wir → b < pl.rates.length
/-- lamps of one room are fed alike, if the rule wants it -/
def Follows (pl : PlanD) (wir : List (Option Nat)) : Prop := pl.rule = "free" ∨ ∀ (i j : Nat) (p q : Str × Str × Int) (a b : Option Nat), pl.points[i]? = some p → pl.points[j]? = some q → wir[i]? = some a → wir[j]? = some b → p.2.1 = "lamp" → q.2.1 = "lamp" → p.2.2 = q.2.2 → a = b
def LdOk (pl : PlanD) (loads : Loads) : Prop := Asc (loads.map Prod.fst) ∧ loads.length ≤ 5 ∧ (∀ p ∈ loads, p.1 ∈ pl.names ∧ 1 ≤ p.2 ∧ p.2 ≤ 99)
def TmOk (t : Tm) : Prop := t.b < 24 ∧ t.b < t.e ∧ t.e ≤ 24 ∧ 1 ≤ t.v ∧ t.v ≤ 4
def TsOk (pl : PlanD) (ts : Timers) : Prop := (ts.map Prod.fst).Nodup ∧ ts.length ≤ 5 ∧ ∀ p ∈ ts, p.1 ∈ pl.names ∧ TmOk p.2
/-! ### the data as Python has them -/
def eTm (t : Tm) : PyData := .tuple [.int t.b, .int t.e, .int t.v]
def eLoads (l : Loads) : List (Str × PyData) := l.map fun p => (p.1, .int p.2)
def eTimers (l : Timers) : List (Str × PyData) := l.map fun p => (p.1, eTm p.2)
def eNats (l : List Nat) : List PyData := l.map fun (n : Nat) => .int (n : Int)
def ePair (p : Nat × Nat) : PyData := .tuple [.int (p.1 : Int), .int (p.2 : Int)]
def ePairs (l : List (Nat × Nat)) : List PyData := l.map ePair
end Bf
set_option Elab.async false
set_option linter.all false
set_option maxRecDepth 100000
set_option maxHeartbeats 2000000
/-! What each def promises. -/
namespace Bf
open PySem L2
/-- a tuple that is tracked as such -/
def Tx (K : PySem.W.Frag) (ds : List PyData) : V → Hp → Prop := fun v G => ∃ a xs, v = .ref a ∧ G a = some (.tup xs) ∧ DpAll K G xs ds
theorem mo_Tx {K : PySem.W.Frag} {ds : List PyData} : Mo (Tx K ds) := fun v G G' e ⟨a, xs, h1, h2, h3⟩ => ⟨a, xs, h1, e _ _ h2, dpA_ex e _ _ h3⟩
theorem Tx.d {K : PySem.W.Frag} {ds : List PyData} {v : V} {G : Hp} (h : Tx K ds v G) : D K (.tuple ds) v G := by
  obtain ⟨a, xs, rfl, h2, h3⟩ := h
  exact dTup h2 h3
abbrev dTT : PyData := .bool true
def sp_rates (K : PySem.W.Frag) (C : Addr) : Sp := FnS 1 (fun pl => [Pl K C pl]) (fun _ => True) fun pl => D K (eRates pl.rates)
def sp_above (K : PySem.W.Frag) (C : Addr) : Sp := FnS 1 (fun pl => [Pl K C pl]) (fun _ => True) fun pl => D K (eOpts pl.above)
def sp_points (K : PySem.W.Frag) (C : Addr) : Sp := FnS 1 (fun pl => [Pl K C pl]) (fun _ => True) fun pl => D K (ePoints pl.points)
def sp_rule (K : PySem.W.Frag) (C : Addr) : Sp := FnS 1 (fun pl => [Pl K C pl]) (fun _ => True) fun pl => D K (.str pl.rule)
def sp_names (K : PySem.W.Frag) (C : Addr) : Sp := FnS 1 (fun pl => [Pl K C pl]) (fun _ => True) fun pl => D K (eNames pl.names)
def sp_len (K : PySem.W.Frag) (C : Addr) : Sp := FnS 1 (fun pl => [Pl K C pl]) (fun _ => True) fun pl => D K (.int pl.rates.length)
def sp_is_number (K : PySem.W.Frag) (C : Addr) : Sp := FnS 3 (fun (a : Int × Int × Int) => [D K (.int a.1), D K (.int a.2.1), D K (.int a.2.2)]) (fun _ => True) fun a => D K (.bool (decide (a.2.1 ≤ a.1) && decide (a.1 ≤ a.2.2)))
def sp_is_word (K : PySem.W.Frag) (C : Addr) : Sp := FnS 1 (fun (s : Str) => [D K (.str s)]) WordOk fun _ => D K dTT
def sp_are_rates (K : PySem.W.Frag) (C : Addr) : Sp := FnS 1 (fun (pl : PlanD) => [D K (eRates pl.rates)]) PlOk fun _ => D K dTT
def sp_are_above (K : PySem.W.Frag) (C : Addr) : Sp := FnS 2 (fun (pl : PlanD) => [D K (eOpts pl.above), D K (.int pl.rates.length)]) PlOk fun _ => D K dTT
def sp_is_point (K : PySem.W.Frag) (C : Addr) : Sp := FnS 1 (fun (p : Str × Str × Int) => [D K (ePoint p)]) (fun p => WordOk p.1 ∧ (p.2.1 = "lamp" ∨ p.2.1 = "plug") ∧ 0 ≤ p.2.2 ∧ p.2.2 ≤ 9) fun _ => D K dTT
def sp_are_points (K : PySem.W.Frag) (C : Addr) : Sp := FnS 1 (fun (pl : PlanD) => [D K (ePoints pl.points)]) PlOk fun _ => D K dTT
def sp_does_follow (K : PySem.W.Frag) (C : Addr) : Sp := FnS 2 (fun (a : PlanD × List (Option Nat)) => [Pl K C a.1, D K (eOpts a.2)]) (fun a => PlOk a.1 ∧ WirOk a.1 a.2 ∧ Follows a.1 a.2) fun _ => D K dTT
def sp_is_wiring (K : PySem.W.Frag) (C : Addr) : Sp := FnS 2 (fun (a : PlanD × List (Option Nat)) => [Pl K C a.1, D K (eOpts a.2)]) (fun a => PlOk a.1 ∧ WirOk a.1 a.2 ∧ Follows a.1 a.2) fun _ => D K dTT
def sp_check_wiring (K : PySem.W.Frag) (C : Addr) : Sp := FnS 2 (fun (a : PlanD × List (Option Nat)) => [Pl K C a.1, D K (eOpts a.2)]) (fun a => PlOk a.1 ∧ WirOk a.1 a.2 ∧ Follows a.1 a.2) fun _ => D K .none
def sp_check_breaker (K : PySem.W.Frag) (C : Addr) : Sp := FnS 2 (fun (a : PlanD × Nat) => [Pl K C a.1, D K (.int a.2)]) (fun a => PlOk a.1 ∧ a.2 < a.1.rates.length) fun _ => D K .none
def sp_all_on (K : PySem.W.Frag) (C : Addr) : Sp := FnS 1 (fun pl => [Pl K C pl]) PlOk fun pl => D K (eBools (allOn pl))
def sp_line_up (K : PySem.W.Frag) (C : Addr) : Sp := FnS 2 (fun (a : PlanD × Nat) => [Pl K C a.1, D K (.int a.2)]) (fun a => PlOk a.1 ∧ a.2 < a.1.rates.length) fun a => D K (.tuple (eNats (lineUp a.1.above a.2)))
def sp_has_power (K : PySem.W.Frag) (C : Addr) : Sp := FnS 3 (fun (a : PlanD × List Bool × Option Nat) => [Pl K C a.1, D K (eBools a.2.1), D K (eOpt a.2.2)]) (fun a => PlOk a.1 ∧ a.2.1.length = a.1.rates.length ∧ ∀ b, a.2.2 = some b → b < a.1.rates.length) fun a => D K (.bool (hasPw a.1.above a.2.1 a.2.2))
def sp_wrong_load (K : PySem.W.Frag) (C : Addr) : Sp := FnS 2 (fun (a : PlanD × Loads) => [Pl K C a.1, Dk K (eLoads a.2)]) (fun a => PlOk a.1 ∧ LdOk a.1 a.2) fun _ => D K .none
def sp_check_loads (K : PySem.W.Frag) (C : Addr) : Sp := FnS 2 (fun (a : PlanD × Loads) => [Pl K C a.1, Dk K (eLoads a.2)]) (fun a => PlOk a.1 ∧ LdOk a.1 a.2) fun _ => D K .none
abbrev Q4 := PlanD × List (Option Nat) × List Bool × Loads
abbrev q4ok (a : Q4) : Prop := PlOk a.1 ∧ WirOk a.1 a.2.1 ∧ a.2.2.1.length = a.1.rates.length
def sp_currents_in (K : PySem.W.Frag) (C : Addr) : Sp := FnS 4 (fun (a : Q4) => [Pl K C a.1, D K (eOpts a.2.1), D K (eBools a.2.2.1), Dk K (eLoads a.2.2.2)]) q4ok fun a => D K (.tuple ((curs a.1 a.2.1 a.2.2.1 a.2.2.2).map PyData.int))
def sp_trips_in (K : PySem.W.Frag) (C : Addr) : Sp := FnS 4 (fun (a : Q4) => [Pl K C a.1, D K (eOpts a.2.1), D K (eBools a.2.2.1), Dk K (eLoads a.2.2.2)]) (fun a => q4ok a ∧ ∀ p ∈ a.2.2.2, 0 ≤ p.2) fun a => D K (.tuple [eBools (trips a.1 a.2.1 a.2.2.1 a.2.2.2).1, .tuple (eNats (trips a.1 a.2.1 a.2.2.1 a.2.2.2).2)])
def sp_does_run (K : PySem.W.Frag) (C : Addr) : Sp := FnS 3 (fun (a : PlanD × List (Option Nat) × Loads) => [Pl K C a.1, D K (eOpts a.2.1), Dk K (eLoads a.2.2)]) (fun a => PlOk a.1 ∧ WirOk a.1 a.2.1 ∧ ∀ p ∈ a.2.2, 0 ≤ p.2) fun a => D K (.bool (trips a.1 a.2.1 (allOn a.1) a.2.2).2.isEmpty)
def sp_is_timer (K : PySem.W.Frag) (C : Addr) : Sp := FnS 1 (fun (t : Tm) => [D K (eTm t)]) TmOk fun _ => D K dTT
abbrev Q0 := PlanD × List (Option Nat) × Loads × Timers
abbrev q0ok (a : Q0) : Prop := PlOk a.1 ∧ WirOk a.1 a.2.1 ∧ Follows a.1 a.2.1 ∧ LdOk a.1 a.2.2.1 ∧ TsOk a.1 a.2.2.2
def sp_check_timed (K : PySem.W.Frag) (C : Addr) : Sp := FnS 4 (fun (a : Q0) => [Pl K C a.1, D K (eOpts a.2.1), Dk K (eLoads a.2.2.1), Dk K (eTimers a.2.2.2)]) q0ok fun _ => D K .none
def sp_check_count (K : PySem.W.Frag) (C : Addr) : Sp := FnS 2 (fun (a : Nat × Nat) => [D K (.int a.1), D K (.int a.2)]) (fun a => a.1 ≤ a.2) fun _ => D K .none
def sp_length_of (K : PySem.W.Frag) (C : Addr) : Sp := FnS 1 (fun (ts : Timers) => [Dx K (eTimers ts)]) (fun ts => ts.length ≤ 5 ∧ ∀ p ∈ ts, TmOk p.2) fun ts => D K (.int (lenOf ts))
def sp_names_on (K : PySem.W.Frag) (C : Addr) : Sp := FnS 3 (fun (a : Loads × Timers × Nat) => [Dk K (eLoads a.1), Dk K (eTimers a.2.1), D K (.int a.2.2)]) (fun a => Asc (a.1.map Prod.fst) ∧ a.1.length ≤ 5 ∧ ∀ p ∈ a.2.1, TmOk p.2) fun a => Tx K ((namesOn a.1 a.2.1 a.2.2).map PyData.str)
def sp_loads_at (K : PySem.W.Frag) (C : Addr) : Sp := FnS 4 (fun (a : Loads × Timers × List Str × Nat) => [Dk K (eLoads a.1), Dk K (eTimers a.2.1), D K (eNames a.2.2.1), D K (.int a.2.2.2)]) (fun a => a.2.2.1.Nodup ∧ a.2.2.1.length ≤ 5 ∧ ∀ n ∈ a.2.2.1, n ∈ a.1.map Prod.fst) fun a => Dx K (eLoads (loadsAt a.1 a.2.1 a.2.2.1 a.2.2.2))
abbrev Q5 := PlanD × List (Option Nat) × Loads × Timers × List Str
def sp_trips_of (K : PySem.W.Frag) (C : Addr) : Sp := FnS 5 (fun (a : Q5) => [Pl K C a.1, D K (eOpts a.2.1), Dk K (eLoads a.2.2.1), Dk K (eTimers a.2.2.2.1), D K (eNames a.2.2.2.2)]) (fun a => PlOk a.1 ∧ WirOk a.1 a.2.1 ∧ LdOk a.1 a.2.2.1 ∧ a.2.2.2.2.Nodup ∧ a.2.2.2.2.length ≤ 5 ∧ ∀ n ∈ a.2.2.2.2, n ∈ a.2.2.1.map Prod.fst)
  fun a => D K (.list (ePairs (tripsOf a.1 a.2.1 (loadsAt a.2.2.1 a.2.2.2.1 a.2.2.2.2))))
def sp_day (K : PySem.W.Frag) (C : Addr) : Sp := FnS 5 (fun (a : Q0 × Nat) => [Pl K C a.1.1, D K (eOpts a.1.2.1), Dk K (eLoads a.1.2.2.1), Dk K (eTimers a.1.2.2.2), D K (.int a.2)]) (fun a => q0ok a.1 ∧ a.2 ≤ 10 ^ 18) fun a => D K (.list (ePairs (dayP a.1.1 a.1.2.1 a.1.2.2.1 a.1.2.2.2 a.2)))
def sp_day_rows (K : PySem.W.Frag) (C : Addr) : Sp := FnS 4 (fun (a : Q0) => [Pl K C a.1, D K (eOpts a.2.1), Dk K (eLoads a.2.2.1), Dx K (eTimers a.2.2.2)]) q0ok fun a => D K (.list ((rowsOf a.1 a.2.1 a.2.2.1 a.2.2.2).map fun r => .list (eNats r)))
def sp_trips_until (K : PySem.W.Frag) (C : Addr) : Sp := FnS 5 (fun (a : Q0 × Nat) => [Pl K C a.1.1, D K (eOpts a.1.2.1), Dk K (eLoads a.1.2.2.1), Dx K (eTimers a.1.2.2.2), D K (.int a.2)]) (fun a => q0ok a.1 ∧ a.2 ≤ 10 ^ 18)
  fun a => D K (.tuple ((List.range a.1.1.rates.length).map fun b => .int ((sumTo (cnt a.1.1 a.1.2.1 a.1.2.2.1 a.1.2.2.2 b) a.2 : Nat) : Int)))
def sp_first_day (K : PySem.W.Frag) (C : Addr) : Sp := FnS 5 (fun (a : Q0 × Nat) => [Pl K C a.1.1, D K (eOpts a.1.2.1), Dk K (eLoads a.1.2.2.1), Dx K (eTimers a.1.2.2.2), D K (.int a.2)]) (fun a => q0ok a.1 ∧ a.2 < a.1.1.rates.length)
  fun a => D K (eOpt ((List.range 12).find? fun n => decide (0 < cnt a.1.1 a.1.2.1 a.1.2.2.1 a.1.2.2.2 a.2 n)))
def sp_all_shifts (K : PySem.W.Frag) (C : Addr) : Sp := FnS 2 (fun (ts : Timers) => [Dk K (eTimers ts), D K (.int 0)]) (fun ts => ts.length ≤ 5 ∧ (ts.map Prod.fst).Nodup ∧ ∀ p ∈ ts, TmOk p.2) fun _ => D K (.list [.list []])
def sp_shifted (K : PySem.W.Frag) (C : Addr) : Sp := FnS 2 (fun (ts : Timers) => [Dk K (eTimers ts), D K (.list [])]) (fun ts => ts.length ≤ 5) fun ts => Dk K (eTimers ts)
/-- nothing ever trips -/
def quietB (a : Q0) : Bool := (List.range 12).all fun n => (dayP a.1 a.2.1 a.2.2.1 a.2.2.2 n).isEmpty
def sp_fewest_shifts (K : PySem.W.Frag) (C : Addr) : Sp := FnS 5 (fun (a : Q0) => [Pl K C a.1, D K (eOpts a.2.1), Dk K (eLoads a.2.2.1), Dx K (eTimers a.2.2.2), D K (.int 0)]) q0ok fun a => D K (if quietB a then .list [] else .none)
/-! ### the law's own defs: a scheme is the plan's parts and more -/
def eS (pl : PlanD) (rest : List PyData) : PyData := .tuple (eParts pl ++ rest)
abbrev W4 := PlanD × List PyData × List (Option Nat) × List Bool
def sp__law_plan (K : PySem.W.Frag) (C : Addr) : Sp := FnS 1 (fun (a : PlanD × List PyData) => [D K (eS a.1 a.2)]) (fun a => PlOk a.1) fun a => Pl K C a.1
def sp__law_has (K : PySem.W.Frag) (C : Addr) : Sp := FnS 3 (fun (a : PlanD × List PyData × List Bool × Option Nat) => [D K (eS a.1 a.2.1), D K (eBools a.2.2.1), D K (eOpt a.2.2.2)]) (fun a => PlOk a.1 ∧ a.2.2.1.length = a.1.rates.length ∧ ∀ b, a.2.2.2 = some b → b < a.1.rates.length) fun a => D K (.bool (hasPw a.1.above a.2.2.1 a.2.2.2))
def litL (pl : PlanD) (wir : List (Option Nat)) (st : List Bool) : List Nat := (List.range wir.length).filter fun k => hasPw pl.above st (wir.getD k none)
def sp__law_lit (K : PySem.W.Frag) (C : Addr) : Sp := FnS 3 (fun (a : W4) => [D K (eS a.1 a.2.1), D K (eOpts a.2.2.1), D K (eBools a.2.2.2)]) (fun a => PlOk a.1 ∧ WirOk a.1 a.2.2.1 ∧ a.2.2.2.length = a.1.rates.length) fun a => D K (.list (eNats (litL a.1 a.2.2.1 a.2.2.2)))
def sp__law_under (K : PySem.W.Frag) (C : Addr) : Sp := FnS 3 (fun (a : PlanD × List PyData × Option Nat × Nat) => [D K (eS a.1 a.2.1), D K (eOpt a.2.2.1), D K (.int a.2.2.2)]) (fun a => PlOk a.1 ∧ ∀ b, a.2.2.1 = some b → b < a.1.rates.length) fun a => D K (.bool (onLine a.1.above a.2.2.2 a.2.2.1))
abbrev W5 := PlanD × List PyData × List (Option Nat) × List Bool × Loads
abbrev w5ok (a : W5) : Prop := PlOk a.1 ∧ WirOk a.1 a.2.2.1 ∧ a.2.2.2.1.length = a.1.rates.length
def sp__law_flows (K : PySem.W.Frag) (C : Addr) : Sp := FnS 4 (fun (a : W5) => [D K (eS a.1 a.2.1), D K (eOpts a.2.2.1), D K (eBools a.2.2.2.1), Dk K (eLoads a.2.2.2.2)]) w5ok fun a => D K (.list ((curs a.1 a.2.2.1 a.2.2.2.1 a.2.2.2.2).map PyData.int))
def sp__law_tripped (K : PySem.W.Frag) (C : Addr) : Sp := FnS 4 (fun (a : W5) => [D K (eS a.1 a.2.1), D K (eOpts a.2.2.1), D K (eBools a.2.2.2.1), Dk K (eLoads a.2.2.2.2)]) (fun a => w5ok a ∧ ∀ p ∈ a.2.2.2.2, 0 ≤ p.2)
  fun a => D K (.tuple [eBools (trips a.1 a.2.2.1 a.2.2.2.1 a.2.2.2.2).1, .tuple (eNats (trips a.1 a.2.2.1 a.2.2.2.1 a.2.2.2.2).2)])
def sp__law_day (K : PySem.W.Frag) (C : Addr) : Sp := FnS 5 (fun (a : PlanD × List PyData × List (Option Nat) × Loads × Timers × Nat) => [D K (eS a.1 a.2.1), D K (eOpts a.2.2.1), Dx K (eLoads a.2.2.2.1), Dk K (eTimers a.2.2.2.2.1), D K (.int a.2.2.2.2.2)]) (fun a => PlOk a.1 ∧ WirOk a.1 a.2.2.1 ∧ LdOk a.1 a.2.2.2.1 ∧ ∀ p ∈ a.2.2.2.2.1, TmOk p.2)
  fun a => D K (.list (ePairs (dayP a.1 a.2.2.1 a.2.2.2.1 a.2.2.2.2.1 a.2.2.2.2.2)))
def sp__law_wirings (K : PySem.W.Frag) (C : Addr) : Sp := FnS 1 (fun (pl : PlanD) => [D K (eS pl [])]) (fun pl => PlOk pl ∧ pl.rates.length ≤ 3 ∧ pl.points.length ≤ 4) fun pl => fun v G => ∃ ws : List (List (Option Nat)), ws ≠ [] ∧ ws.length ≤ 256 ∧ (∀ w ∈ ws, WirOk pl w ∧ Follows pl w) ∧ D K (.list (ws.map eOpts)) v G
/-! ### defs that draw: the row's list stands in F at r -/
def rowO (ap : Addr) (p s m : Int) : HO := .lst [.ref ap, .int p, .int s, .int m]
def FnD (K : PySem.W.Frag) {α : Type} (n : Nat) (pre : α → List (V → Hp → Prop)) (ok : α → Prop) (post : α → V → Hp → Prop) : Sp := fun vs H Q _ =>
  vs.length = n + 1 ∧ ∃ (a : α) (r ap : Addr) (ns : List Int) (p s m : Int) (ws : List V) (G F : Hp), vs = .ref r :: ws ∧ H = un G (upd F r (rowO ap p s m)) ∧ Dj G (upd F r (rowO ap p s m)) ∧ F r = none ∧ Al (pre a) ws G ∧ ok a ∧ D K (.list (ns.map PyData.int)) (.ref ap) G ∧ 0 ≤ p ∧ 0 ≤ s ∧ s < 2147483647 ∧
    ∀ v G' p' s' m', 0 ≤ p' → 0 ≤ s' → s' < 2147483647 → Ex G G' → Dj G' (upd F r (rowO ap p' s' m')) → post a v G' → Q v (un G' (upd F r (rowO ap p' s' m')))
def sp__law_taken (K : PySem.W.Frag) (C : Addr) : Sp := FnD K 1 (fun (n : Nat) => [D K (.int n)]) (fun n => 1 ≤ n ∧ n ≤ 1000) fun n v G => ∃ i : Nat, i < n ∧ v = .int i
def sp__law_pick (K : PySem.W.Frag) (C : Addr) : Sp := FnD K 1 (fun (ds : List PyData) => [D K (.list ds)]) (fun ds => 1 ≤ ds.length ∧ ds.length ≤ 1000) fun ds v G => ∃ d ∈ ds, D K d v G
def sp__law_mixed (K : PySem.W.Frag) (C : Addr) : Sp := FnD K 1 (fun (ds : List PyData) => [D K (.tuple ds)]) (fun ds => ds.length ≤ 100 ∧ ∀ d ∈ ds, d.canLay0 = true ∧ d.depth ≤ 10) fun ds v G => ∃ es, es.Perm ds ∧ D K (.list es) v G
def sp__law_scheme (K : PySem.W.Frag) (C : Addr) : Sp := FnD K 2 (fun (_ : Unit) => [D K (.int 3), D K (.int 4)]) (fun _ => True) fun _ v G => ∃ pl wir, PlOk pl ∧ pl.rates.length ≤ 3 ∧ pl.points.length ≤ 4 ∧ WirOk pl wir ∧ Follows pl wir ∧ D K (eS pl [eOpts wir]) v G
def sp__law_loads (K : PySem.W.Frag) (C : Addr) : Sp := FnD K 1 (fun (a : PlanD × List PyData) => [D K (eS a.1 a.2)]) (fun a => PlOk a.1) fun a v G => ∃ loads, LdOk a.1 loads ∧ Dx K (eLoads loads) v G
end Bf
set_option Elab.async false
set_option linter.all false
set_option maxRecDepth 100000
set_option maxHeartbeats 4000000
/-! Own layer, part 6: rules of the model that the kit's layer lacks: tuple(dict), enumerate(tuple), min and sorted of data. -/
namespace Bf
open PySem PySem.Spec PyProof.Rows L2
open PySem.W (minD AlikeAll dataLt EachIs alike_unique min_list_data)
/-! ### tuple(d), d a dict -/
section
variable {prog : Program} {w : World} {A : Around} {E : Value → Shared → Prop} {s : Shared} {d : Addr} {kvs : List (Key × Value)} {ep : Nat}
theorem code_tupD {Q₁ : Value → Shared → Prop} (hh : A.handled = none) (lo : (d == sysModules) = false) (hd : s.heap.DictAt (mixKind prog w) d kvs ep) (hlen : kvs.length ≤ sizeLine)
    (h : ∀ (h' : Heap) (tk : Nat) (acc : Array Value), (∀ b o, s.heap.get? b = some o → h'.get? b = some o) → ItemsOf (fun i v => ∃ k x, kvs[i]? = some (k, x) ∧ (mixKind prog w).is k v = true) acc kvs.length →
      Q₁ (.ref h'.objs.size) { s with heap := h'.push { cls := .type "tuple", data := .seq acc }, toks := tk }) :
    codeAny (model prog w) A (.call (.builtin "tuple.__new__") ⟨[.type "tuple", .ref d], []⟩) (wants Q₁ E) s := by
  refine codeAny_of_tree ?_
  show wpAny _ A.in1 (do checkBuiltinCall "tuple.__new__" ⟨[.type "tuple", .ref d], []⟩; again (.builtin "tuple.__new__" ⟨[.type "tuple", .ref d], []⟩)) _ _ s
  refine wpAny_bind (wpAny_of_eq (F.newCall_tuple_1 _) (wpAny_pure ⟨plainId_quiet F.plain_tuple_new _, codeAny_builtin F.entry_tuple_new ?_⟩))
  rw [Around.under_plainId F.plain_tuple_new _]
  have hsub := sub_tuple_self
  have hinit := init_tuple_lookup
  have hmh := madeHere_tuple
  have hTI : s.TypeIs (.ref d) "dict" := hd.dictOf.typeIs
  have hh1 : A.in1.handled = none := hh
  have src := PySem.W.kdl_dict (prog := prog) (w := w) (knd := mixKind prog w) (kvs := kvs) (ep := ep) lo
  wp_walk using wpAny_typeOf hTI, PySem.W.kdu_collect (A := A.in1) src hh1 hd hlen
  intro h' tk acc hk hacc
  show wpAny _ _ (Builtin.Tuple.tupleExact acc.toList.toArray >>= fun v => ret v) _ _ _
  unfold Builtin.Tuple.tupleExact
  refine wpAny_bind (wpAny_newObj_type ?_ (by show acc.toList.toArray.size ≤ sizeLine; simp only [Array.toArray_toList]; rw [hacc.1]; exact hlen))
  refine wpAny_pure ?_
  have e : acc.toList.toArray = acc := by simp
  rw [e]
  exact h h' tk acc hk hacc
end
def rTupDk : List V → Hp → VK → Prop := fun xs H Q => ∃ (a : Addr) (kvs : List (Key × V)), xs = [.ref a] ∧ Rd H a (.dK kvs) ∧ ∀ p, H p = none → Q (.ref p) (upd H p (.tup (kvs.map fun kv => kV kv.1)))
theorem call_tupDk {X : Cx} (hcalm : X.calm = true) : CallR X (.type "tuple") rTupDk := by
  intro pins s σ H xs us Q I r q
  obtain ⟨a, kvs, ex, hd, q⟩ := q
  subst ex
  obtain ⟨u, eu, rx⟩ := vals1 r
  subst eu
  cases rx
  obtain ⟨z, lo, vs, rel, dd⟩ := dk_rd I.hok hd
  obtain ⟨ep, hat⟩ := dd.dictAt
  have ek : (kvs.map fun kv => kV kv.1) = vs.map fun p => kV p.1 := by
    have e := congrArg (List.map kV) rel.keys
    rw [List.map_map, List.map_map] at e
    exact e
  refine callType_codes (Q₁ := fun obj s₁ => s₁.TypeIs obj "tuple" ∧ EP X pins σ Q obj s₁) F.called_tuple (F.typeCall_tuple_1 _) F.entry_object_init
    (code_tupD (A := X.A.in1) (I.ok.hd hcalm) lo hat (by rw [← rel.length]; exact z) fun h' tk acc hk hacc => ⟨⟨_, Heap.get?_push_size _ rfl, rfl⟩, ?_⟩) fun obj s₁ h₁ => ?_
  · have hv : Vals (vs.map fun p => kV p.1) acc.toList := keys_at (by rw [Array.length_toList]; exact hacc.1) fun j v e => hacc.2 j v (by rw [← Array.getElem?_toList]; exact e)
    have I1 : Inv X pins σ H { s with heap := h', toks := tk } := I.kept hk
    refine ⟨.ref h'.objs.size, upd H h'.objs.size (.tup (kvs.map fun kv => kV kv.1)), I1.laid (t' := tk) (fun b o e => Heap.get?_push_of_some _ e) (Nat.le_refl _) ?_, rfl, q _ (I1.hok.fresh (Nat.le_refl _))⟩
    refine show ObjOk X.prog X.w _ _ _ (.tup (kvs.map fun kv => kV kv.1)) from ⟨by rw [List.length_map]; exact z, acc.toList, by rw [ek]; exact hv, ?_⟩
    have e : acc.toList.toArray = acc := by simp
    rw [e]
    exact IsTup.new _ _
  · exact ⟨h₁.1, F.args_object_init_2 obj _, object_init_meets F.called_tuple.init.lookup F.called_tuple.made (by decide) X.prog X.w X.A.in1 _ s₁ ⟨h₁.1, rfl, h₁.2⟩⟩
/-! ### sorted(d), dict(d), list.count: by the names the printer uses -/
def rSortDk : List V → Hp → VK → Prop := fun xs H Q => ∃ (a : Addr) (kvs : List (Key × V)) (ks : List Str), xs = [.ref a] ∧ Rd H a (.dK kvs) ∧ kvs.map (·.1) = ks.map Sum.inr ∧ ks.length < 64 ∧
    ∀ ys p, ys.Perm ks → sortedS ys = true → H p = none → Q (.ref p) (upd H p (.lst (ys.map V.str)))
theorem call_sortDk {X : Cx} (hc : X.calm = true) : CallR X (.builtin "sorted") rSortDk := call_sortedD hc
def rDictDk : List V → Hp → VK → Prop := fun xs H Q => ∃ (a : Addr) (kvs : List (Key × V)), xs = [.ref a] ∧ Rd H a (.dK kvs) ∧ ∀ p, H p = none → Q (.ref p) (upd H p (.dK kvs))
theorem call_dictDk {X : Cx} : CallR X (.type "dict") rDictDk := call_dictD
abbrev rCount (K : PySem.W.Frag) := rCntI K
theorem mt_countX {X : Cx} : MtR X "list.count" (rCount X.K) := mt_lcount
/-! ### min of a list of data, sorted of a list of data -/
theorem vals_get {xs : List V} {us : List Value} (r : Vals xs us) {i : Nat} {u : Value} (h : us[i]? = some u) : ∃ x, xs[i]? = some x ∧ RelV x u := by
  obtain ⟨x, h1, h2⟩ : ∃ x, xs[i]? = some x ∧ RelV x u := by
    have hl := r.length
    have hi : i < xs.length := by rw [hl]; exact (List.getElem?_eq_some_iff.mp h).1
    obtain ⟨u', h1, h2⟩ := r.get (List.getElem?_eq_getElem hi)
    rw [h] at h1
    cases h1
    exact ⟨_, List.getElem?_eq_getElem hi, h2⟩
  exact ⟨x, h1, h2⟩
def rMinP (K : PySem.W.Frag) : List V → Hp → VK → Prop := fun vs H Q => ∃ (a : Addr) (xs : List V) (d : PyData) (ds : List PyData), vs = [V.ref a] ∧ SqL K H a xs ∧ DpAll K H xs (d :: ds) ∧ AlikeAll (d :: ds) ∧ PyData.depthAll (d :: ds) ≤ 8 ∧ ∀ (i : Nat) (v : V), xs[i]? = some v → (d :: ds)[i]? = some (minD d ds) → Q v H
theorem minD_mem (x : PyData) : ∀ xs : List PyData, minD x xs ∈ x :: xs := by
  have key : ∀ (xs : List PyData) (a : PyData), List.foldl (fun a y => if dataLt y a then y else a) a xs ∈ a :: xs := by
    intro xs
    induction xs with
    | nil => intro a; exact List.mem_cons_self
    | cons y r ih =>
      intro a
      rw [List.foldl_cons]
      by_cases h : dataLt y a = true
      · rw [if_pos h]
        exact List.mem_cons_of_mem _ (ih y)
      · rw [if_neg h]
        rcases List.mem_cons.mp (ih a) with q | q
        · rw [q]; exact List.mem_cons_self
        · exact List.mem_cons_of_mem _ (List.mem_cons_of_mem _ q)
  exact fun xs => key xs x
theorem call_minP {X : Cx} (hc : X.calm = true) (hu : X.A.units + 64 < cLine) : CallR X (.builtin "min") (rMinP X.K) := by
  intro pins s σ H vs us Q I r h
  obtain ⟨a, xs, d, ds, rfl, hs, hd, hal, hdp, q⟩ := h
  obtain ⟨its, rv, hl, _⟩ := I.list hs
  obtain ⟨as, hr⟩ := Dp.readsAll I _ _ its hd rv
  rw [Vals.ref1 r]
  refine min_list_data (I.ok.hd hc) hl.isList (by simpa using hr) hal (by omega) fun i v h' tk bs hv hR hk => ?_
  have hv : its[i]? = some v := by simpa using hv
  obtain ⟨x, e1, e2⟩ := vals_get rv hv
  obtain ⟨d', e3, e4⟩ := dpA_at hd e1
  have I1 : Inv X pins σ H { s with heap := h', toks := tk } := I.kept hk
  obtain ⟨cs, hR2⟩ := Dp.reads I1 d' x v e4 e2
  have m1 : d' ∈ d :: ds := List.mem_of_getElem? e3
  have e5 : d' = minD d ds := alike_unique d' _ v _ _ (hal.1 _ m1 _ (minD_mem d ds)) hR2 hR
  subst e5
  exact ⟨x, H, I1, e2, q i x e1 e3⟩
def rSortP (K : PySem.W.Frag) : List V → Hp → VK → Prop := fun vs H Q => ∃ (a : Addr) (xs : List V) (ds : List PyData), vs = [V.ref a] ∧ SqL K H a xs ∧ DpAll K H xs ds ∧ PySem.W.AllAlike ds ∧ PySem.W.Sortable ds ∧ (∀ d ∈ ds, d.depth ≤ 8) ∧
  ∀ ys p, Paired (fun x d => (x, d) ∈ xs.zip ds) ys (ds.mergeSort (PySem.W.dataLe false id)) → H p = none → Q (.ref p) (upd H p (.lst ys))
theorem each_zip {K : PySem.W.Frag} {H : Hp} : ∀ {xs : List V} {us : List Value} {ds : List PyData}, Vals xs us → DpAll K H xs ds → EachIs (fun u d => ∃ x, RelV x u ∧ (x, d) ∈ xs.zip ds ∧ Dp K H x d) us ds
  | _, _, _, .nil, h => by cases h; exact .nil
  | _, _, _, .cons r t, h => by
    cases h with
    | cons h1 h2 =>
      refine .cons ⟨_, r, List.mem_cons_self, h1⟩ ((each_zip t h2).mono fun u d ⟨x, r, m, q⟩ => ⟨x, r, List.mem_cons_of_mem _ m, q⟩)
theorem of_each {R : V → PyData → Prop} : ∀ {us : List Value} {ds : List PyData}, EachIs (fun u d => ∃ x, RelV x u ∧ R x d) us ds → ∃ xs, Vals xs us ∧ Paired R xs ds
  | _, _, .nil => ⟨[], .nil, .nil⟩
  | _, _, .cons ⟨x, r, h⟩ t => by
    obtain ⟨xs, h1, h2⟩ := of_each t
    exact ⟨x :: xs, .cons r h1, .cons h h2⟩
theorem call_sortP {X : Cx} (hu : X.A.units + 64 < cLine) : CallR X (.builtin "sorted") (rSortP X.K) := by
  intro pins s σ H vs us Q I r h
  obtain ⟨a, xs, ds, rfl, hs, hd, hal, hso, hdp, q⟩ := h
  obtain ⟨its, rv, hl, hz⟩ := I.list hs
  rw [Vals.ref1 r]
  have hle : its.length = ds.length := by rw [← rv.length]; exact dpA_len hd
  have er : EachIs (fun v b => ∃ as, Reads s.heap v (id b) as) its ds := (each_zip rv hd).mono fun u d ⟨x, r, _, h⟩ => Dp.reads I d x u h r
  refine PySem.W.sorted_data (R := fun u d => ∃ x, RelV x u ∧ (x, d) ∈ xs.zip ds) (enc := id) hl.isList ((each_zip rv hd).mono fun u d ⟨x, r, m, _⟩ => ⟨x, r, m⟩) er (by rw [List.map_id]; exact hal) (by rw [List.map_id]; exact hso) (by rw [← hle, ← rv.length]; exact hz) (fun d m => by have := hdp d m; show _ + 2 + d.depth < _; omega) fun out hlo ho => ?_
  obtain ⟨ys, h1, h2⟩ := of_each ho
  obtain ⟨ep, he'⟩ := PyProof.Rows.sortedAll_at s.heap its (List.toArray out)
  refine ⟨.ref _, upd H (s.heap.objs.size + 1) (.lst ys), I.laid (t' := s.toks) (fun _ _ => PyProof.Rows.sortedAll_old) (Nat.le_succ _) ⟨?_, out, ep, h1, he'⟩, rfl, q ys _ h2 (I.hok.fresh (Nat.le_succ _))⟩
  rw [h1.length, hlo, ← hle, ← rv.length]
  exact hz
end Bf
set_option Elab.async false
set_option linter.all false
set_option maxRecDepth 100000
set_option maxHeartbeats 4000000
/-! Own layer, part 7: enumerate over a tuple. -/
namespace Bf
open PySem PySem.Spec PyProof.Rows L2
/-- the tuple at a, each item in a new pair -/
def IteT (K : PySem.W.Frag) (a : Addr) : It :=
  ⟨fun i H => ∃ (xs : List V) (x : V), SqT K H a xs ∧ xs[i]? = some x, fun i H v H' => ∃ T x, v = .ref T ∧ H T = none ∧ H' = upd H T (.tup [.int (i : Nat), x]) ∧ ∀ xs, SqT K H a xs → xs[i]? = some x, fun i H => ∃ xs : List V, SqT K H a xs ∧ xs.length ≤ i⟩
def EnSt (e it a : Addr) (i : Nat) (h : Heap) : Prop := (∃ old, IsEnum h e it ((i : Nat) : Int) old) ∧ h.IsTupleIter it a i ∧ e ≠ it
theorem turn_enumT {P : Program} {w : World} {K : PySem.W.Frag} {elts : List Expr} {kk : Nat} {tpos : Pos} (a e it : Addr) (hai : a ≠ it) (hae : a ≠ e) : Turn P w K (.Tuple elts kk tpos) (IteT K a) [e, it] e (EnSt e it a) where
  mem := by simp
  obj := fun i h st b hb => by
    obtain ⟨⟨old, he⟩, ⟨o, ho, hc, hd⟩, _⟩ := st
    rcases (by simpa using hb : b = e ∨ b = it) with z | z
    · rw [z]; exact ⟨_, he, fun v q => nomatch q⟩
    · rw [z]; exact ⟨o, ho, fun v q => by rw [hd] at q; cases q⟩
  keep := fun i h h' st k => by
    obtain ⟨⟨old, he⟩, hi, hne⟩ := st
    exact ⟨⟨old, k e (by simp) _ he⟩, hi.at fun o q => k it (by simp) o q, hne⟩
  item := by
    intro X hP hw hK hc i pins s σ H E I hf st hg
    subst hP hw hK
    obtain ⟨⟨old, he⟩, hit, hne⟩ := st
    obtain ⟨xs, x, hq, hx⟩ := hg
    obtain ⟨its, rv, p, hz⟩ := I.tuple hq
    obtain ⟨u, hu, ru⟩ := rv.get hx
    have hel : e < s.heap.objs.size := Heap.lt_size he
    have hil : it < s.heap.objs.size := by obtain ⟨_, q, _⟩ := hit; exact Heap.lt_size q
    have Dr := Draws.tuple (prog := X.prog) (w := X.w) (A := X.A.in1) (I.ok.hd hc) it a hai its.toArray
    have hlt : i < its.toArray.size := by
      rw [List.size_toArray]
      exact (List.getElem?_eq_some_iff.mp hu).1
    refine wpAny_pyNext_enum_itemD Dr he ⟨hit, p⟩ hlt hne (by simp [hne, Ne.symm hae]) fun x' h' tk hP' ho st' hT hsz hk => ?_
    have ex : x' = u := by
      have z : its.toArray[i]? = some u := by simpa using hu
      rw [z] at hP'
      exact (Option.some.inj hP').symm
    subst ex
    refine ⟨_, rfl, wpAny_letOwnedTupleGo_enum (s := { s with heap := h', toks := tk + 1 }) ho fun h'' he' sb => ?_⟩
    have hT2 : h''.get? s.heap.objs.size = some { cls := .type "tuple", data := .seq #[.int i tk, x'] } := (sb.2 _ (Nat.ne_of_gt hel)).trans hT
    have new : ObjOk X.prog X.w (upd H s.heap.objs.size (.tup [.int (i : Nat), x])) h'' s.heap.objs.size (.tup [.int (i : Nat), x]) :=
      ⟨by show 2 ≤ sizeLine; decide, [.int i tk, x'], .cons ⟨_, rfl⟩ (.cons ru .nil), ⟨_, hT2, rfl, _, rfl⟩⟩
    have I1 : Inv X pins σ (upd H s.heap.objs.size (.tup [.int (i : Nat), x])) { s with heap := h'', toks := tk + 1 } :=
      I.turnedNew (ch := [e, it]) (fun b ob hb q => (sb.2 b (fun z => hb (by simp [z]))).trans (hk b ob (fun z => hb (by simp [z])) (fun z => hb (by simp [z])) q)) hf (Nat.le_refl _) new
    refine ⟨.ref s.heap.objs.size, _, I1, rfl, ⟨_, x, rfl, I.hok.fresh (Nat.le_refl _), rfl, fun ys hy => by rw [I.tuple_inj hy hq]; exact hx⟩, ⟨⟨x', ?_⟩, st'.1.at fun o q => (sb.2 it (Ne.symm hne)).trans q, hne⟩, fun b hb => ?_⟩
    · have e1 : ((i + 1 : Nat) : Int) = (i : Int) + 1 := by omega
      rw [e1]; exact he'
    · have hb' : b < s.heap.objs.size := by
        rcases (by simpa using hb : b = e ∨ b = it) with z | z
        · rw [z]; exact hel
        · rw [z]; exact hil
      rw [upd_ne (Nat.ne_of_lt hb')]
      exact (hf b hb).1
  done := by
    intro X hP hw hK hc i pins s σ H E I hf st hg
    subst hP hw hK
    obtain ⟨⟨old, he⟩, hit, hne⟩ := st
    obtain ⟨xs, hq, hx⟩ := hg
    obtain ⟨its, rv, p, hz⟩ := I.tuple hq
    have f := hf it (by simp)
    obtain ⟨f0, f1, f2, f3, f4, f5⟩ := f
    have hl := rv.length
    -- the walk is at its end or behind it
    have hend : its.toArray[i]? = none := by simp; omega
    have hT : s.TypeIs (.ref e) "enumerate" := ⟨_, he, rfl⟩
    refine show wpAny _ _ (pyNext (.ref e)) _ _ s from ?_
    unfold pyNext
    refine wpAny_bind (wpAny_attempt (wpAny_callSpecial?_slot (name := Str.ofString "__next__") hT F.slot_enumerate_next
      (wpAny_call_entry F.slot_enumerate_next hT F.entry_enumerate_next ?_ (F.args_enumerate_next_1 _))))
    show wpAny _ _ (field (.ref e) 2 >>= _) _ _ _
    refine wpAny_bind (wpAny_field he rfl (x := .ref it) rfl ?_)
    refine wpAny_bind (wpAny_nextOf_tuple_end (A := X.A.in1) (I.ok.hd hc) hit p hend fun h' x he' hx' => ?_)
    obtain ⟨o, ho, hco⟩ := hx'
    refine wpAny_bind (wpAny_isInstance (T := "StopIteration") (b := true) ⟨o, ho, hco⟩ isSubtype_stop ?_)
    exact wpAny_pure ⟨rfl, I.turned (t' := s.toks) (fun b o hb q => he' b o hb q) f0 f1 f3 f4 f5⟩
  self := fun A i s Q E st h => let ⟨⟨_, he⟩, _⟩ := st; wpAny_pyIter_enum he h
set_option maxHeartbeats 1000000 in
theorem meets_enumB {v : Value} {o : Obj} {H : Heap → Prop} (B : Begins v o H) :
    Meets (Builtin.«enumerate.__new__» ⟨[.type "enumerate", v], []⟩) (fun _ R s => H s.heap ∧
      R (.ok (.ret (.ref (s.heap.push o).objs.size))) { s with heap := (s.heap.push o).push { cls := .type "enumerate", data := .fields #[.none, .bool false, .ref s.heap.objs.size, rawInt 0, .none, .none] } }) :=
  .of_wp fun prog w A R s h => by
    obtain ⟨hp, g, d, tk, os⟩ := s; obtain ⟨h1, h⟩ := h
    have hsub := sub_enumerate
    have q1 : ∀ {A' : Around} {E : Value → Shared → Prop} {Q : Value → Shared → Prop}, Q (.ref hp.objs.size) ⟨hp.push o, g, d, tk, os⟩ → wpAny (model prog w) A' (pyIter v) Q E ⟨hp, g, d, tk, os⟩ :=
      fun q => B.iter prog w _ _ ⟨hp, g, d, tk, os⟩ _ h1 q
    wp_walk using q1
    refine wpAny_stack_any fun st => wpAny_pure ?_
    split
    · rename_i c _ _ _ _ _
      cases (c == Value.type "enumerate")
      · wp_walk using q1
        exact ⟨_, rfl, h⟩
      · wp_walk using q1
        exact ⟨_, rfl, h⟩
    · wp_walk using q1
      exact ⟨_, rfl, h⟩
section
variable {prog : Program} {w : World} {A : Around} {E : Value → Shared → Prop} {s : Shared}
theorem call_enumT {v : Value} {o : Obj} {H : Heap → Prop} {Q : Value → Shared → Prop} (B : Begins v o H) (h1 : H s.heap)
    (h : ∀ h', IsEnum h' (s.heap.objs.size + 1) s.heap.objs.size 0 .none → h'.get? s.heap.objs.size = some o → h'.objs.size = s.heap.objs.size + 2 →
      (∀ b o, s.heap.get? b = some o → h'.get? b = some o) → Q (.ref (s.heap.objs.size + 1)) { s with heap := h' }) :
    wpAny (model prog w) A (call (.type "enumerate") [v]) Q E s := by
  refine callType_new F.called_enumerate (by decide) (F.typeCall_enumerate_1 _) (F.newCall_enumerate_1 _) (fun obj => F.args_object_init_2 obj _) F.entry_enumerate_new
    (meets_enumB B) ⟨h1, ?_⟩
  have hz : (s.heap.push o).objs.size = s.heap.objs.size + 1 := Heap.size_push ..
  show _ ∧ _
  rw [hz]
  have he : IsEnum ((s.heap.push o).push { cls := .type "enumerate", data := .fields #[.none, .bool false, .ref s.heap.objs.size, rawInt 0, .none, .none] }) (s.heap.objs.size + 1) s.heap.objs.size 0 .none := by
    have := Heap.get?_push_size (s.heap.push o) (o := { cls := .type "enumerate", data := .fields #[.none, .bool false, .ref s.heap.objs.size, rawInt 0, .none, .none] }) rfl
    rw [hz] at this; exact this
  exact ⟨⟨_, he, rfl⟩, h _ he (Heap.get?_push_of_some _ (Heap.get?_push_size _ B.free)) (by rw [Heap.size_push, hz]) fun b o x => Heap.get?_push_of_some _ (Heap.get?_push_of_some _ x)⟩
end
def iEnumT (K : PySem.W.Frag) (ta : TA) : TI := fun σ H R => ta σ H fun vs H1 => ∃ a xs, vs = [.ref a] ∧ SqT K H1 a xs ∧ R (IteT K a) H1
theorem pi_enumT {X : Cx} {e : Expr} {ta : TA} {p pos tpos : Pos} {elts : List Expr} {kk : Nat} (hg : Gl X "enumerate") (hm : X.mg "enumerate" = none) (ha : PA X [e] ta) (hs : starEach [e] X.env = [(false, eval e X.env)] := by rfl) :
    PI X (.Tuple elts kk tpos) (.Call (.Name "enumerate" p) [e] [] pos) (iEnumT X.K ta) := by
  refine ⟨fun pins s σ H R I h => ?_⟩
  refine Call_ (ld_blt I hg hm boot_enumerate (PyProof.Rows.callWith_type1 (thn (ha.run pos pins s σ H _ I h) fun us s1 ⟨vs, H1, I1, r1, q1⟩ => ?_) hs rfl))
  obtain ⟨a, xs, ex, hq, q⟩ := q1
  subst ex
  rw [Vals.ref1 r1]
  obtain ⟨its, rv, p', hz⟩ := I1.tuple hq
  have hal : a < s1.heap.objs.size := by obtain ⟨o, ho, _⟩ := id p'; exact Heap.lt_size ho
  refine call_enumT (begins_tuple a its.toArray) p' fun h' he hit hsz hk => wpAny_pyIter_enum he ?_
  have I2 : Inv X pins σ H1 { s1 with heap := h' } := I1.kept (t' := s1.toks) hk
  refine ⟨s1.heap.objs.size + 1, [s1.heap.objs.size + 1, s1.heap.objs.size], _, _, H1, rfl, I2, turn_enumT a (s1.heap.objs.size + 1) s1.heap.objs.size (Nat.ne_of_lt hal) (Nat.ne_of_lt (Nat.lt_succ_of_lt hal)), ⟨⟨.none, he⟩, ⟨_, hit, rfl, rfl⟩, Nat.succ_ne_self _⟩, fun b hb => ?_, q⟩
  have hle : s1.heap.objs.size ≤ b := by
    rcases (by simpa using hb : b = s1.heap.objs.size + 1 ∨ b = s1.heap.objs.size) with z | z
    · rw [z]; exact Nat.le_add_right _ _
    · rw [z]; exact Nat.le_refl _
  exact I1.fpOk hle (I1.hok.fresh hle)
end Bf
set_option Elab.async false
set_option linter.all false
set_option maxRecDepth 100000
set_option maxHeartbeats 4000000
/-! Own layer, part 8: the further rules over data and frame. -/
namespace Bf
open PySem PyProof.Rows L2
open PySem.W (minD AlikeAll dataLt alike)
section
variable {α β : Type} {K : PySem.W.Frag} {σ : St} {G G' F : Hp} {ta tb te tx td ty to ti : TE} {t u : TT} {P P' P1 P2 : V → Hp → Prop} {v : V} {E : Ends} {tz tw : TS} {ty' : TS}
/-! ### enumerate -/
def enumL {α : Type} (as : List α) : List (Nat × α) := (List.range as.length).zip as
theorem enum_at {as : List α} {i j : Nat} {a : α} (h : (enumL as)[i]? = some (j, a)) : j = i ∧ as[i]? = some a := by
  unfold enumL at h
  obtain ⟨h1, h2⟩ := zip_at h
  have hlt : i < as.length := (List.getElem?_eq_some_iff.mp h2).1
  rw [List.getElem?_range hlt] at h1
  exact ⟨(Option.some.inj h1).symm, h2⟩
theorem enum_len {as : List α} : (enumL as).length = as.length := by
  unfold enumL
  rw [List.length_zip, List.length_range, Nat.min_self]
theorem src_enumT {p : Addr} {xs : List V} {as : List α} {enc : α → PyData} (h1 : SqT K G p xs) (d1 : DpAll K G xs (as.map enc)) : Src (IteT K p) G (enumL as) (fun ab => D K (.tuple [.int (ab.1 : Nat), enc ab.2])) where
  goes := fun i G1 F hi e dj => by
    rw [enum_len] at hi
    obtain ⟨x, e1, _⟩ := dpA_map d1 (List.getElem?_eq_getElem hi)
    exact ⟨xs, x, sqT_ex (e.trans ex_un) h1, e1⟩
  stops := fun G1 F e dj => ⟨xs, sqT_ex (e.trans ex_un) h1, by rw [dpA_len d1, List.length_map, enum_len]; exact Nat.le_refl _⟩
  yields := fun i ab G1 F x H' ha e dj y => by
    obtain ⟨j, a⟩ := ab
    obtain ⟨rfl, ha⟩ := enum_at ha
    obtain ⟨T, x1, rfl, hT, rfl, f1⟩ := y
    obtain ⟨z1, e1, e2⟩ := dpA_map d1 ha
    have g1 := f1 xs (sqT_ex (e.trans ex_un) h1)
    rw [e1] at g1
    cases g1
    obtain ⟨n1, n2⟩ := un_no hT
    exact ⟨_, Ex.new n1, dj.newL n2, upd_l, dTup upd_same (.cons (dInt _) (.cons ((e2.ex e).ex (Ex.new n1)) .nil))⟩
theorem ei_enumT {as : List α} {enc : α → PyData} (h1 : Ev ta σ G (D K (.tuple (as.map enc)))) : EvI (iEnumT K (tCons ta tNil)) σ G (enumL as) (fun ab => D K (.tuple [.int (ab.1 : Nat), enc ab.2])) := fun G1 a F dj Q q =>
  h1 G1 a F dj _ fun v G2 e2 d2 p1 => by
    obtain ⟨b, xs, rfl, g1, g2⟩ := p1.tup
    exact ⟨b, xs, rfl, sqT_ex ex_un g1, q _ G2 e2 d2 (src_enumT g1 g2)⟩
theorem src_enumL {p : Addr} {xs : List V} {as : List α} {enc : α → PyData} (h1 : SqL K G p xs) (d1 : DpAll K G xs (as.map enc)) : Src (Ite K p) G (enumL as) (fun ab => D K (.tuple [.int (ab.1 : Nat), enc ab.2])) where
  goes := fun i G1 F hi e dj => by
    rw [enum_len] at hi
    obtain ⟨x, e1, _⟩ := dpA_map d1 (List.getElem?_eq_getElem hi)
    exact ⟨xs, x, sqL_ex (e.trans ex_un) h1, e1⟩
  stops := fun G1 F e dj => ⟨xs, sqL_ex (e.trans ex_un) h1, by rw [dpA_len d1, List.length_map, enum_len]; exact Nat.le_refl _⟩
  yields := fun i ab G1 F x H' ha e dj y => by
    obtain ⟨j, a⟩ := ab
    obtain ⟨rfl, ha⟩ := enum_at ha
    obtain ⟨T, x1, rfl, hT, rfl, f1⟩ := y
    obtain ⟨z1, e1, e2⟩ := dpA_map d1 ha
    have g1 := f1 xs (sqL_ex (e.trans ex_un) h1)
    rw [e1] at g1
    cases g1
    obtain ⟨n1, n2⟩ := un_no hT
    exact ⟨_, Ex.new n1, dj.newL n2, upd_l, dTup upd_same (.cons (dInt _) (.cons ((e2.ex e).ex (Ex.new n1)) .nil))⟩
theorem ei_enumL {as : List α} {enc : α → PyData} (h1 : Ev ta σ G (D K (.list (as.map enc)))) : EvI (iEnum K (tCons ta tNil)) σ G (enumL as) (fun ab => D K (.tuple [.int (ab.1 : Nat), enc ab.2])) := fun G1 a F dj Q q =>
  h1 G1 a F dj _ fun v G2 e2 d2 p1 => by
    obtain ⟨b, xs, rfl, g1, g2⟩ := p1.lst
    exact ⟨b, xs, rfl, sqL_ex ex_un g1, q _ G2 e2 d2 (src_enumL g1 g2)⟩
/-- range(i, j, c) -/
theorem ei_range3 {tc : TE} {i j c : Int} {n : Nat} (ha : Ev ta σ G (D K (.int i))) (hb : Ev tb σ G (D K (.int j))) (hc : Ev tc σ G (D K (.int c))) (hr : RgC i j c n) : EvI (iRng3 (tCons ta (tCons tb (tCons tc tNil)))) σ G (List.range n) (fun k => D K (.int (i + (k : Nat) * c))) := fun G1 a F dj Q q =>
  ha G1 a F dj _ fun x G2 e2 d2 p1 => hb G2 (a.trans e2) F d2 _ fun y G3 e3 d3 p2 => hc G3 ((a.trans e2).trans e3) F d3 _ fun z G4 e4 d4 p3 => by
    obtain rfl := p1.int
    obtain rfl := p2.int
    obtain rfl := p3.int
    exact ⟨i, j, c, n, rfl, hr, q _ G4 ((e2.trans e3).trans e4) d4 src_rangeC⟩
/-! ### tuple(d), sorted(d), dict(d) -/
theorem kds_keys : ∀ {vs : List (Key × V)} {kvs : List (Str × PyData)}, KDs K G vs kvs → (vs.map fun kv => kV kv.1) = (kvs.map Prod.fst).map V.str ∧ vs.map (·.1) = (kvs.map Prod.fst).map Sum.inr
  | _, [], h => by cases h; exact ⟨rfl, rfl⟩
  | _, q :: kvs, h => by
    cases h with
    | @cons p _ ps _ h1 h2 =>
      obtain ⟨e1, e2⟩ := kds_keys h2
      simp only [List.map_cons]
      rw [e1, e2, h1.1]
      exact ⟨rfl, rfl⟩
theorem ev_tupDk {kvs : List (Str × PyData)} (ha : Ev td σ G (Dk K kvs)) : Ev (tCB rTupDk (tCons td tNil)) σ G (Tx K ((kvs.map Prod.fst).map PyData.str)) := ev_cb1 ha mo_Dk fun x G1 F Q e d p q => by
  obtain ⟨b, vs, rfl, h1, h2⟩ := p
  refine ⟨b, vs, rfl, rd_ex ex_un h1, fun l hn => ?_⟩
  obtain ⟨n1, n2⟩ := un_no hn
  rw [upd_l, (kds_keys h2).1]
  exact q _ _ (Ex.new n1) (d.newL n2) ⟨l, _, rfl, upd_same, strs_dpA _⟩
/-- sorted(d): its keys in some order that ascends -/
theorem ev_sortDk {kvs : List (Str × PyData)} (ha : Ev td σ G (Dk K kvs)) (hl : kvs.length < 64) : Ev (tCB rSortDk (tCons td tNil)) σ G (fun v G' => ∃ ys : List Str, ys.Perm (kvs.map Prod.fst) ∧ sortedS ys = true ∧ Lx K (ys.map PyData.str) v G') := ev_cb1 ha mo_Dk fun x G1 F Q e d p q => by
  obtain ⟨b, vs, rfl, h1, h2⟩ := p
  refine ⟨b, vs, kvs.map Prod.fst, rfl, rd_ex ex_un h1, (kds_keys h2).2, by rw [List.length_map]; exact hl, fun ys l hp hs hn => ?_⟩
  obtain ⟨n1, n2⟩ := un_no hn
  rw [upd_l]
  exact q _ _ (Ex.new n1) (d.newL n2) ⟨ys, hp, hs, l, _, rfl, upd_same, strs_dpA _⟩
theorem ev_dictDk {kvs : List (Str × PyData)} (ha : Ev td σ G (Dk K kvs)) : Ev (tCB rDictDk (tCons td tNil)) σ G (Dx K kvs) := ev_cb1 ha mo_Dk fun x G1 F Q e d p q => by
  obtain ⟨b, vs, rfl, h1, h2⟩ := p
  refine ⟨b, vs, rfl, rd_ex ex_un h1, fun l hn => ?_⟩
  obtain ⟨n1, n2⟩ := un_no hn
  rw [upd_l]
  exact q _ _ (Ex.new n1) (d.newL n2) ⟨l, vs, rfl, upd_same, kds_ex (Ex.new n1) h2⟩
/-! ### count, min, sorted -/
theorem tyV_lst {p : Addr} {xs : List V} {H : Hp} (h : SqL K H p xs) : tyV K "list" (.ref p) H := .inl ⟨rfl, xs, h⟩
theorem ev_count {ns : List Int} {k : Int} (ha : Ev ta σ G (D K (.list (ns.map PyData.int)))) (hb : Ev tb σ G (D K (.int k))) : Ev (tBM K "list" (rCount K) ta (tCons tb tNil)) σ G (D K (.int (ns.count k : Nat))) := fun G1 a F dj Q q =>
  ha G1 a F dj _ fun x G2 e2 d2 p => by
    obtain ⟨b, xs, rfl, h1, h2⟩ := p.lst
    have e := dpA_ints h2
    subst e
    refine ⟨tyV_lst (sqL_ex ex_un h1), hb G2 (a.trans e2) F d2 _ fun y G3 e3 d3 p2 => ?_⟩
    obtain rfl := p2.int
    exact ⟨b, ns, k, rfl, rfl, sqL_ex (e3.trans ex_un) h1, q _ G3 (e2.trans e3) d3 (dInt _)⟩
theorem ev_minP {d : PyData} {ds : List PyData} (ha : Ev ta σ G (D K (.list (d :: ds)))) (hal : AlikeAll (d :: ds)) (hd : PyData.depthAll (d :: ds) ≤ 8) : Ev (tCB (rMinP K) (tCons ta tNil)) σ G (D K (minD d ds)) := ev_cb1 ha mo_D fun x G1 F Q e dj p q => by
  obtain ⟨b, xs, rfl, h1, h2⟩ := p.lst
  refine ⟨b, xs, d, ds, rfl, sqL_ex ex_un h1, dpA_ex ex_un _ _ h2, hal, hd, fun i v e1 e2 => ?_⟩
  obtain ⟨d', e3, e4⟩ := dpA_at h2 e1
  rw [e2] at e3
  cases e3
  exact q v G1 (Ex.refl _) dj e4
theorem zip_dp : ∀ {xs : List V} {ds : List PyData}, DpAll K G xs ds → ∀ {x : V} {d : PyData}, (x, d) ∈ xs.zip ds → D K d x G
  | _, [], h, _, _, m => by cases h; simp at m
  | _, e :: ds, h, x, d, m => by
    cases h with
    | cons h1 h2 =>
      rcases List.mem_cons.mp m with z | z
      · cases z
        exact h1
      · exact zip_dp h2 z
theorem paired_dp {R : V → PyData → Prop} (hR : ∀ x d, R x d → D K d x G) : ∀ {xs : List V} {ds : List PyData}, Paired R xs ds → DpAll K G xs ds
  | _, _, .nil => .nil
  | _, _, .cons h t => .cons (hR _ _ h) (paired_dp hR t)
theorem ev_sortP {ds : List PyData} (ha : Ev ta σ G (D K (.list ds))) (hal : PySem.W.AllAlike ds) (hs : PySem.W.Sortable ds) (hd : ∀ d ∈ ds, d.depth ≤ 8) : Ev (tCB (rSortP K) (tCons ta tNil)) σ G (Lx K (ds.mergeSort (PySem.W.dataLe false id))) := ev_cb1 ha mo_D fun x G1 F Q e dj p q => by
  obtain ⟨b, xs, rfl, h1, h2⟩ := p.lst
  refine ⟨b, xs, ds, rfl, sqL_ex ex_un h1, dpA_ex ex_un _ _ h2, hal, hs, hd, fun ys l hp hn => ?_⟩
  obtain ⟨n1, n2⟩ := un_no hn
  rw [upd_l]
  exact q _ _ (Ex.new n1) (dj.newL n2) ⟨l, ys, rfl, upd_same, dpA_ex (Ex.new n1) _ _ (paired_dp (fun x d m => zip_dp h2 m) hp)⟩
/-! ### reading while the private part is F -/
def EvF (te : TE) (σ : St) (G F : Hp) (P : V → Hp → Prop) : Prop := ∀ G1, Ex G G1 → Dj G1 F → ∀ Q : VK, (∀ v G2, Ex G1 G2 → Dj G2 F → P v G2 → Q v (un G2 F)) → te σ (un G1 F) Q
theorem Ev.f (h : Ev te σ G P) : EvF te σ G F P := fun G1 a d Q q => h G1 a F d Q q
/-- l.append(e), e reads the frame -/
theorem s_appF {l : Addr} {i : Nat} {xs : List V} (dj : Dj G F) (hl : F l = some (.lst xs)) (ha : σ[i]? = some (some (.ref l))) (hz : xs.length ≤ 1000) (h : EvF te σ G F P) (k : ∀ v G', Ex G G' → Dj G' (upd F l (.lst (xs ++ [v]))) → P v G' → tz E σ (un G' (upd F l (.lst (xs ++ [v]))))) :
    tSeq (tDrop (tBM K "list" rAppend (tVar i) (tCons te tNil))) tz E σ (un G F) :=
  ⟨_, ha, .inl ⟨rfl, xs, SqL.of (un_r dj hl)⟩, h G (Ex.refl _) dj _ fun v G2 e2 d2 p => ⟨l, xs, v, rfl, rfl, un_r d2 hl, small1000 hz, by
    have n1 : G2 l = none := d2.n hl
    show tz E σ (upd (un G2 F) l (.lst (xs ++ [v])))
    rw [upd_r n1]
    exact k v G2 e2 (d2.newR n1) p⟩⟩
/-! ### a dict whose keys are tuples of texts, one's own -/
abbrev kT (ks : List Str) : List Key := ks.map Sum.inr
theorem tx_key {ks : List Str} {v : V} (h : Tx K (ks.map PyData.str) v G) : ∃ a, v = .ref a ∧ G a = some (.tup ((kT ks).map kV)) := by
  obtain ⟨a, xs, rfl, h1, h2⟩ := h
  have e := dpA_strs h2
  subst e
  refine ⟨a, rfl, ?_⟩
  rw [h1, List.map_map]
  rfl
theorem kT_inj {a b : List Str} (h : kT a = kT b) : a = b := by
  induction a generalizing b with
  | nil => cases b with
    | nil => rfl
    | cons y ys => simp [kT] at h
  | cons x xs ih => cases b with
    | nil => simp [kT] at h
    | cons y ys =>
      simp only [kT, List.map_cons, List.cons.injEq] at h
      rw [Sum.inr.inj h.1, ih h.2]
/-- if names not in known -/
theorem s_ifNewT {l : Addr} {ks : List Str} {vs : List (List Key × V)} (dj : Dj G F) (hl : F l = some (.dT vs)) (hk : EvF ty σ G F (Tx K (ks.map PyData.str))) (ha : ∀ G1, Ex G G1 → EvF td σ G1 F (fun v _ => v = .ref l))
    (h1 : valV vs (kT ks) = none → ∀ G', Ex G G' → Dj G' F → ty' { E with nx := tz E } σ (un G' F)) (h2 : ∀ v, valV vs (kT ks) = some v → ∀ G', Ex G G' → Dj G' F → tw { E with nx := tz E } σ (un G' F)) : tSeq (tIfS (tB (tDNotIn ty td)) ty' tw) tz E σ (un G F) :=
  hk G (Ex.refl _) dj _ fun v G2 e2 d2 p => ha G2 e2 G2 (Ex.refl _) d2 _ fun x G3 e3 d3 ex => by
    subst ex
    obtain ⟨a, rfl, h3⟩ := tx_key (mo_Tx _ _ _ e3 p)
    refine ⟨l, valV vs (kT ks), rfl, .inr ⟨vs, kT ks, a, .inl (un_r d3 hl), rfl, un_l h3, rfl⟩, _, rfl, ?_⟩
    cases hv : valV vs (kT ks) with
    | none => exact h1 hv G3 (e2.trans e3) d3
    | some w => exact h2 w hv G3 (e2.trans e3) d3
/-- known[names] -/
theorem ef_dgetT {l : Addr} {ks : List Str} {vs : List (List Key × V)} {w : V} (hl : F l = some (.dT vs)) (ha : EvF td σ G F (fun v _ => v = .ref l)) (hk : ∀ G1, Ex G G1 → EvF ty σ G1 F (Tx K (ks.map PyData.str))) (hv : valV vs (kT ks) = some w) : EvF (tDGet td ty) σ G F (fun v _ => v = w) := fun G1 a d Q q =>
  ha G1 a d _ fun x G2 e2 d2 ex => hk G2 (a.trans e2) G2 (Ex.refl _) d2 _ fun y G3 e3 d3 p => by
    subst ex
    obtain ⟨b, rfl, h3⟩ := tx_key p
    exact ⟨l, w, rfl, .inr ⟨vs, kT ks, b, .inl (un_r d3 hl), rfl, un_l h3, hv.symm⟩, q w G3 (e2.trans e3) d3 rfl⟩
/-- known[names] = e -/
theorem s_dputT {l : Addr} {ks : List Str} {vs : List (List Key × V)} (dj : Dj G F) (hl : F l = some (.dT vs)) (hz : vs.length ≤ 1000) (he : EvF te σ G F P) (m : Mo P) (ha : ∀ G1, Ex G G1 → EvF td σ G1 F (fun v _ => v = .ref l)) (hk : ∀ G1, Ex G G1 → EvF ty σ G1 F (Tx K (ks.map PyData.str)))
    (k : ∀ v G', Ex G G' → Dj G' (upd F l (.dT (putK vs (kT ks) v))) → P v G' → tz E σ (un G' (upd F l (.dT (putK vs (kT ks) v))))) : tSeq (sDPut td ty te) tz E σ (un G F) :=
  he G (Ex.refl _) dj _ fun v G2 e2 d2 p => ha G2 e2 G2 (Ex.refl _) d2 _ fun x G3 e3 d3 ex => hk G3 (e2.trans e3) G3 (Ex.refl _) d3 _ fun y G4 e4 d4 p2 => by
    subst ex
    obtain ⟨b, rfl, h3⟩ := tx_key p2
    refine ⟨l, _, rfl, .inr ⟨vs, kT ks, b, un_r d4 hl, rfl, un_l h3, small1000 hz, rfl⟩, ?_⟩
    have n1 : G4 l = none := d4.n hl
    show tz E σ (upd (un G4 F) l (.dT (putK vs (kT ks) v)))
    rw [upd_r n1]
    exact k v G4 ((e2.trans e3).trans e4) (d4.newR n1) (m _ _ _ (e3.trans e4) p)
theorem ef_own {i : Nat} {l : Addr} (h : σ[i]? = some (some (.ref l))) : EvF (tVar i) σ G F (fun v _ => v = .ref l) := fun G1 a d Q q => ⟨_, h, q _ G1 (Ex.refl _) d rfl⟩
/-! ### pairs of targets, one or both private -/
theorem s_parL {i j : Nat} {a : TE} (dj : Dj G F) (h1 : Ev a σ G P1) (m : Mo P1) (k : ∀ v p G', Ex G G' → G' p = none → F p = none → Dj G' (upd F p (.lst [])) → P1 v G' → tz E ((σ.set i (some v)).set j (some (.ref p))) (un G' (upd F p (.lst [])))) : tSeq (tPar i j (tCons a (tCons (tLst tNil) tNil))) tz E σ (un G F) :=
  h1.run dj fun v G2 e2 d2 p1 => ⟨Nat.zero_le _, fun p hn => by
    obtain ⟨n1, n2⟩ := un_no hn
    refine ⟨v, .ref p, rfl, ?_⟩
    show tz E _ (upd (un G2 F) p (.lst []))
    rw [upd_r n1]
    exact k v p G2 e2 n1 n2 (d2.newR n1) p1⟩
theorem s_parDT {i j : Nat} (dj : Dj G F) (k : ∀ d p, G d = none → F d = none → G p = none → F p = none → d ≠ p → Dj G (upd (upd F d (.dT [])) p (.lst [])) → tz E ((σ.set i (some (.ref d))).set j (some (.ref p))) (un G (upd (upd F d (.dT [])) p (.lst [])))) : tSeq (tPar i j (tCons tDNewT (tCons (tLst tNil) tNil))) tz E σ (un G F) := fun d hd => by
  obtain ⟨n1, n2⟩ := un_no hd
  rw [upd_r n1]
  refine ⟨Nat.zero_le _, fun p hn => ?_⟩
  have dj1 := dj.newR (o := .dT []) n1
  obtain ⟨n3, n4⟩ := un_no hn
  have hne : d ≠ p := fun z => by rw [← z, upd_same] at n4; cases n4
  refine ⟨.ref d, .ref p, rfl, ?_⟩
  show tz E _ (upd (un G (upd F d (.dT []))) p (.lst []))
  rw [upd_r n3]
  exact k d p n1 n2 n3 (by rwa [upd_ne (Ne.symm hne)] at n4) hne (dj1.newR n3)
/-! ### a loop locks the dict it walks -/
theorem rd_frz {a b : Addr} {od : Obj} {o u : HO} (ha : G a = some o) (hu : ∀ od', u ≠ .frz od' o ∨ True) (h : Rd G b u) (hne : u = o ∨ b ≠ a) (hm : ∀ od' o', o ≠ .frz od' o') : Rd (upd G a (.frz od o)) b u := by
  by_cases hb : b = a
  · subst hb
    rcases hne with rfl | z
    · exact .inr ⟨od, upd_same⟩
    · exact absurd rfl z
  · rcases h with h | ⟨od', h⟩
    · exact .inl (by rw [upd_ne hb]; exact h)
    · exact .inr ⟨od', by rw [upd_ne hb]; exact h⟩
theorem rd_ne {a b : Addr} {od : Obj} {o u : HO} (ha : G a = some o) (h : Rd G b u) (hne : u ≠ o) (hm : ∀ od' o', o ≠ .frz od' o') : Rd (upd G a (.frz od o)) b u := by
  refine rd_frz ha (fun _ => .inr trivial) h (.inr fun z => ?_) hm
  subst z
  rcases h with h | ⟨od', h⟩
  · rw [ha] at h
    exact hne (Option.some.inj h).symm
  · rw [ha] at h
    exact hm _ _ (Option.some.inj h)
mutual
theorem dp_frz {a : Addr} {od : Obj} {vs : List (Key × V)} (ha : G a = some (.dK vs)) : ∀ (d : PyData) (v : V), Dp K G v d → Dp K (upd G a (.frz od (.dK vs))) v d
  | .none, _, h => by cases h; exact .non
  | .bool b, _, h => by cases h; exact .bl b
  | .int i, _, h => by cases h; exact .int i
  | .str x, _, h => by cases h; exact .str x
  | .list ds, _, h => by
    cases h with
    | lst hs hal => exact .lst (hs.elim (fun z => .inl (rd_ne ha z (fun q => nomatch q) (fun _ _ q => nomatch q))) .inr) (dpA_frz ha ds _ hal)
  | .tuple ds, _, h => by
    cases h with
    | tup hs hal => exact .tup (hs.elim (fun z => .inl (rd_ne ha z (fun q => nomatch q) (fun _ _ q => nomatch q))) .inr) (dpA_frz ha ds _ hal)
  | .dict _, _, h => by cases h
theorem dpA_frz {a : Addr} {od : Obj} {vs : List (Key × V)} (ha : G a = some (.dK vs)) : ∀ (ds : List PyData) (xs : List V), DpAll K G xs ds → DpAll K (upd G a (.frz od (.dK vs))) xs ds
  | [], _, h => by cases h; exact .nil
  | d :: ds, _, h => by
    cases h with
    | cons h1 h2 => exact .cons (dp_frz ha d _ h1) (dpA_frz ha ds _ h2)
end
theorem kds_frz {a : Addr} {od : Obj} {vs : List (Key × V)} (ha : G a = some (.dK vs)) {ws : List (Key × V)} {kvs : List (Str × PyData)} (h : KDs K G ws kvs) : KDs K (upd G a (.frz od (.dK vs))) ws kvs := Paired.mapP h fun _ _ q => ⟨q.1, dp_frz ha _ _ q.2⟩
theorem dk_frz {a : Addr} {od : Obj} {vs : List (Key × V)} {kvs : List (Str × PyData)} (ha : G a = some (.dK vs)) (h : Dk K kvs v G) : Dk K kvs v (upd G a (.frz od (.dK vs))) := by
  obtain ⟨b, ws, rfl, h1, h2⟩ := h
  refine ⟨b, ws, rfl, ?_, kds_frz ha h2⟩
  by_cases hb : b = a
  · subst hb
    rcases h1 with h1 | ⟨od', h1⟩
    · rw [ha] at h1
      cases h1
      exact .inr ⟨od, upd_same⟩
    · rw [ha] at h1
      cases h1
  · rcases h1 with h1 | ⟨od', h1⟩
    · exact .inl (by rw [upd_ne hb]; exact h1)
    · exact .inr ⟨od', by rw [upd_ne hb]; exact h1⟩
theorem ex_thaw {a : Addr} {od : Obj} {o : HO} {G2 : Hp} (ha : G a = some o) (e : Ex (upd G a (.frz od o)) G2) : Ex G (upd G2 a o) := fun b u hb => by
  by_cases h : b = a
  · subst h
    rw [ha] at hb
    cases hb
    exact upd_same
  · rw [upd_ne h]
    exact e b u (by rw [upd_ne h]; exact hb)
/-- a for loop over a dict that is data: while it runs the dict is locked -/
theorem s_lock {a : Addr} {vs : List (Key × V)} {ts : TS} (dj : Dj G F) (ha : G a = some (.dK vs)) (h : ∀ (od : Obj) (D : Ends), (∀ σ' G' F', Ex (upd G a (.frz od (.dK vs))) G' → Dj G' F' → tz E σ' (un (upd G' a (.dK vs)) F') → D.nx σ' (un G' F')) → (∀ v G' F', Ex (upd G a (.frz od (.dK vs))) G' → Dj G' F' → E.rt v (un (upd G' a (.dK vs)) F') → D.rt v (un G' F')) → Dj (upd G a (.frz od (.dK vs))) F →
      tSeq ts tNext D σ (un (upd G a (.frz od (.dK vs))) F)) : tSeq (tLock ts) tz E σ (un G F) := by
  refine ⟨a, .dK vs, un_l ha, trivial, fun od => ?_⟩
  rw [upd_l]
  have fa : F a = none := dj a _ ha
  have back : ∀ (G' F' : Hp), Ex (upd G a (.frz od (.dK vs))) G' → un G' F' a = some (.frz od (.dK vs)) := fun G' F' e => un_l (e a _ upd_same)
  refine h od ⟨fun σ' H' => H' a = some (.frz od (.dK vs)) ∧ tz E σ' (upd H' a (.dK vs)), fun v H' => H' a = some (.frz od (.dK vs)) ∧ E.rt v (upd H' a (.dK vs)), fun σ' H' => H' a = some (.frz od (.dK vs)) ∧ E.bk σ' (upd H' a (.dK vs)), fun σ' H' => H' a = some (.frz od (.dK vs)) ∧ E.ct σ' (upd H' a (.dK vs))⟩ (fun σ' G' F' e d' q => ⟨back G' F' e, ?_⟩) (fun v G' F' e d' q => ⟨back G' F' e, ?_⟩) (dj.newL fa)
  · show tz E σ' (upd (un G' F') a (.dK vs))
    rw [upd_l]
    exact q
  · show E.rt v (upd (un G' F') a (.dK vs))
    rw [upd_l]
    exact q
end
end Bf
set_option Elab.async false
set_option linter.all false
set_option maxRecDepth 100000
set_option maxHeartbeats 4000000
/-! Own layer, part 9: making instances, methods, the promises of Plan and Quiet. -/
namespace Bf
open PySem PyProof.Rows L2
/-- the class named x stands at C, its __init__ keeps sp -/
structure MkX (P : Program) (w : World) (K : PySem.W.Frag) (mg : Str → Option Value) (base : Heap) (C : Addr) (k : Nat) (x : Str) (sp : Sp) : Prop where
  ex : ∃ f, Mk K C f ∧ FnR P w K mg base CX0 k f sp ∧ mg x = some (.ref C)
theorem pe_makeX {X : Cx} {k : Nat} {C : Addr} {sp : Sp} {x : Str} {e : Expr} {es : List Expr} {t : TA} {p pos : Pos} (h : MkX X.prog X.w X.K X.mg X.base C k x sp) (hr : Room (k + 1) X.A) (hg : Gl X x) (ha : PA X (e :: es) t) (hdb : (x == ("__debug__" : Str)) = false := by decide)
    (he : starEach (e :: es) X.env = (false, eval e X.env) :: starEach es X.env := by rfl) (hpl : (backTo pos (starEach es X.env)).any (·.1) = false := by rfl) : PE X (.Call (.Name x p) (e :: es) [] pos) (StX.tMakeR C sp E0 t) := by
  obtain ⟨f, h1, h2, h3⟩ := h.ex
  exact StX.pe_makeR h1 h2 hr hg h3 pass0 ha hdb he hpl
/-- a method of the class at C -/
structure MeX (P : Program) (w : World) (K : PySem.W.Frag) (mg : Str → Option Value) (base : Heap) (C : Addr) (k : Nat) (m : Str) (sp : Sp) : Prop where
  ex : ∃ f, Cls K C ∧ Meth K C m f ∧ FnR P w K mg base CX0 k f sp
theorem pe_methX {X : Cx} {k : Nat} {C : Addr} {m : Str} {sp : Sp} {o e : Expr} {es : List Expr} {ta : TE} {t : TA} {apos pos : Pos} {pl : Sem Bool} (h : MeX X.prog X.w X.K X.mg X.base C k m sp) (hr : Room k X.A) (he : PE X o ta) (ha : PA X (e :: es) t)
    (hst : starEach (e :: es) X.env = (false, eval e X.env) :: starEach es X.env := by rfl) (hpl : (backTo pos (starEach es X.env)).any (·.1) = false := by rfl)
    (ht : eval (.Call (.Attribute o m apos) (e :: es) [] pos) X.env = (do
      let ov ← eval o X.env
      standAt apos.atName
      let (f, first) ← holding [ov] (getMethod ov m pl)
      callWith pos f first (backTo pos (starEach (e :: es) X.env)) (backToKw pos (keywordEach [] X.env))) := by rfl) :
    PE X (.Call (.Attribute o m apos) (e :: es) [] pos) (tMethR C m sp E0 ta t) := by
  obtain ⟨f, h1, h2, h3⟩ := h.ex
  exact pe_methR (pl := pl) he h1 h2 h3 hr pass0 ha hst hpl ht
/-! ### Plan.__init__ -/
def sp_Plan___init__ (K : PySem.W.Frag) (C : Addr) : Sp := fun vs H Q _ => vs.length = 5 ∧ ∃ (pl : PlanD) (x dx : Addr) (ws : List V) (G F : Hp), vs = .ref x :: ws ∧ H = un G (upd (upd F dx (.own x)) x (.ins C dx [])) ∧ Dj G (upd (upd F dx (.own x)) x (.ins C dx [])) ∧ G x = none ∧ G dx = none ∧ F x = none ∧ F dx = none ∧ dx ≠ x ∧
  Al ((eParts pl).map (D K)) ws G ∧ PlOk pl ∧ ∀ G', Ex G G' → Dj G' F → Pl K C pl (.ref x) G' → Q .non (un G' F)
/-! ### Quiet: its object, what it keeps -/
/-- nothing trips when the points ns draw -/
def noTrip (a : Q0) (ns : List Str) : Bool := (trips a.1 a.2.1 (allOn a.1) (ns.map fun n => (n, loadOf a.2.2.1 n))).2.isEmpty
def KInv (a : Q0) (kvs : List (List Key × V)) : Prop := ∀ ks v, valV kvs (kT ks) = some v → v = .bl (noTrip a ks)
/-- kinds: the days' names, each, in some order -/
def Kinds (a : Q0) (kss : List (List Str)) : Prop := (∀ ks ∈ kss, ∃ n, ks = namesOn a.2.2.1 a.2.2.2 n) ∧ (∀ n, namesOn a.2.2.1 a.2.2.2 n ∈ kss) ∧ kss.length ≤ 12
def Qt (K : PySem.W.Frag) (C CQ : Addr) (a : Q0) (kd : Addr) : V → Hp → Prop := fun v G => ∃ x dx fs pv wv lv kv kss, v = .ref x ∧ G x = some (.ins CQ dx fs) ∧ G dx = some (.own x) ∧ fs.lookup ("plan" : Str) = some pv ∧ fs.lookup ("wiring" : Str) = some wv ∧ fs.lookup ("loads" : Str) = some lv ∧ fs.lookup ("kinds" : Str) = some kv ∧ fs.lookup ("known" : Str) = some (.ref kd) ∧ fs.lookup ("does_run" : Str) = none ∧ fs.lookup ("is_quiet" : Str) = none ∧
  Pl K C a.1 pv G ∧ D K (eOpts a.2.1) wv G ∧ Dk K (eLoads a.2.2.1) lv G ∧ D K (.list (kss.map eNames)) kv G ∧ Kinds a kss
theorem mo_Qt {K : PySem.W.Frag} {C CQ : Addr} {a : Q0} {kd : Addr} : Mo (Qt K C CQ a kd) := fun v G G' e ⟨x, dx, fs, pv, wv, lv, kv, kss, h1, h2, h3, f1, f2, f3, f4, f5, f6, f7, g1, g2, g3, g4, g5⟩ =>
  ⟨x, dx, fs, pv, wv, lv, kv, kss, h1, e _ _ h2, e _ _ h3, f1, f2, f3, f4, f5, f6, f7, mo_Pl _ _ _ e g1, g2.ex e, mo_Dk _ _ _ e g3, g4.ex e, g5⟩
def sp_Quiet___init__ (K : PySem.W.Frag) (C CQ : Addr) : Sp := fun vs H Q _ => vs.length = 5 ∧ ∃ (a : Q0) (x dx : Addr) (ws : List V) (G F : Hp), vs = .ref x :: ws ∧ H = un G (upd (upd F dx (.own x)) x (.ins CQ dx [])) ∧ Dj G (upd (upd F dx (.own x)) x (.ins CQ dx [])) ∧ G x = none ∧ G dx = none ∧ F x = none ∧ F dx = none ∧ dx ≠ x ∧
  Al [Pl K C a.1, D K (eOpts a.2.1), Dk K (eLoads a.2.2.1), Dx K (eTimers a.2.2.2)] ws G ∧ q0ok a ∧ ∀ kd G', Ex G G' → F kd = none → Dj G' (upd F kd (.dT [])) → Qt K C CQ a kd (.ref x) G' → Q .non (un G' (upd F kd (.dT [])))
/-- a method of Quiet: with the points ns that draw (their loads from a) -/
def sp_Quiet_does_run (K : PySem.W.Frag) (C CQ : Addr) : Sp := fun vs H Q _ => vs.length = 2 ∧ ∃ (a : Q0) (ns : List Str) (kd : Addr) (kvs : List (List Key × V)) (G F : Hp), H = un G (upd F kd (.dT kvs)) ∧ Dj G (upd F kd (.dT kvs)) ∧ F kd = none ∧
  Al [Qt K C CQ a kd, Dk K (eLoads (ns.map fun n => (n, loadOf a.2.2.1 n)))] vs G ∧ q0ok a ∧ KInv a kvs ∧ kvs.length ≤ 900 ∧ ∀ G' kvs', Ex G G' → Dj G' (upd F kd (.dT kvs')) → KInv a kvs' → kvs'.length ≤ kvs.length + 1 → Q (.bl (noTrip a ns)) (un G' (upd F kd (.dT kvs')))
/-- whether all hours of a kind of day are quiet -/
def quietKs (a : Q0) (ts : Timers) (ks : List Str) : Bool := (List.range 24).all fun h => noTrip a (ks.filter (hourOn ts h))
def sp_Quiet_is_quiet (K : PySem.W.Frag) (C CQ : Addr) : Sp := fun vs H Q _ => vs.length = 2 ∧ ∃ (a : Q0) (kd : Addr) (G F : Hp), H = un G (upd F kd (.dT [])) ∧ Dj G (upd F kd (.dT [])) ∧ F kd = none ∧
  Al [Qt K C CQ a kd, Dk K (eTimers a.2.2.2)] vs G ∧ q0ok a ∧ ∀ G' kvs', Ex G G' → Dj G' (upd F kd (.dT kvs')) → Q (.bl (quietB a)) (un G' (upd F kd (.dT kvs')))
/-- the class Quiet -/
structure QuC (K : PySem.W.Frag) (CQ : Addr) : Prop where
  c : Cls K CQ
  n1 : NoAttr K CQ "plan"
  n2 : NoAttr K CQ "wiring"
  n3 : NoAttr K CQ "loads"
  n4 : NoAttr K CQ "kinds"
  n5 : NoAttr K CQ "known"
end Bf
set_option Elab.async false
set_option linter.all false
set_option maxRecDepth 100000
set_option maxHeartbeats 4000000
/-! Sets of tuples whose items are of any kind of key (the kit's serve ints alone): what is put in, what comes out. -/
namespace Bf
open PySem PySem.Spec PyProof.Rows L2
section
variable {P : Program} {w : World} {κ : Type} [DecidableEq κ] {kd : PySem.KeyKind P w κ} {A : Around} {E : Value → Shared → Prop} {s : Shared}
/-! ### questions that the model asks of an element -/
theorem sc_class (n : Nat) {v : Value} (h : carriedByValue v = true) : ofAClassStatement n v = pure false := by
  cases v with
  | ref a => simp [carriedByValue] at h
  | _ => cases n <;> rfl
theorem sc_hash (n : Nat) {v : Value} (h : carriedByValue v = true) : ∃ b, hashByValue n v = pure b := by
  cases v with
  | ref a => simp [carriedByValue] at h
  | _ => cases n <;> exact ⟨_, rfl⟩
/-- none of a tuple's items is of a class of the program's -/
theorem tp_class {ks : List κ} {b : Addr} {Q : Bool → Shared → Prop} (hk : IsTupleKey kd s.heap ks b) (h : Q false s) : wpAny (model P w) A (ofAClassStatement 8 (.ref b)) Q E s := by
  have hT := hk.typeIs
  obtain ⟨o, items, n, ho, _, hd, hi⟩ := hk
  have all := hi.byValue
  unfold ofAClassStatement
  refine wpAny_bind (wpAny_typeOf hT ?_)
  dsimp only
  simp only [show (("tuple" : String) == "tuple") = true by decide, if_true, Bool.not_true, Bool.false_eq_true, if_false]
  try refine wpAny_bind (wpAny_pure ?_)
  try simp only [Bool.not_true, Bool.false_eq_true, if_false]
  show wpAny _ _ (seqItems? (.ref b) >>= _) _ _ s
  refine wpAny_bind (wpAny_seqItems ho hd ?_)
  dsimp only
  refine wpAny_bind ?_
  show wpAny _ _ (forIn items _ _) _ _ s
  rw [← Array.forIn_toList]
  refine wpAny_forIn_list _ (fun rest r s' => r.1 = none ∧ s' = s ∧ ∀ v ∈ rest, carriedByValue v = true) _ ?_ ?_ _ _ ⟨rfl, rfl, all⟩
  · rintro v rest r s' ⟨hr, rfl, ha⟩
    rw [sc_class _ (ha v List.mem_cons_self)]
    refine wpAny_bind (wpAny_pure ?_)
    simp only [Bool.false_eq_true, if_false]
    exact wpAny_pure ⟨rfl, rfl, fun u hu => ha u (List.mem_cons_of_mem _ hu)⟩
  · rintro ⟨r1, r2⟩ s' ⟨hr, rfl, _⟩
    cases hr
    exact wpAny_pure h
/-- whether a tuple's hash is known by value: some answer -/
theorem tp_hash {ks : List κ} {b : Addr} {Q : Bool → Shared → Prop} (hk : IsTupleKey kd s.heap ks b) (h : ∀ c, Q c s) : wpAny (model P w) A (hashByValue 8 (.ref b)) Q E s := by
  have hT := hk.typeIs
  obtain ⟨o, items, n, ho, _, hd, hi⟩ := hk
  have all := hi.byValue
  unfold hashByValue
  refine wpAny_bind (wpAny_specialOf hT F.slot_tuple_hash.lookup ?_)
  show wpAny _ _ (seqItems? (.ref b) >>= _) _ _ s
  refine wpAny_bind (wpAny_seqItems ho hd ?_)
  refine wpAny_bind ?_
  show wpAny _ _ (forIn items _ _) _ _ s
  rw [← Array.forIn_toList]
  refine wpAny_forIn_list _ (fun rest r s' => s' = s ∧ ∀ v ∈ rest, carriedByValue v = true) _ ?_ ?_ _ _ ⟨rfl, all⟩
  · rintro v rest r s' ⟨rfl, ha⟩
    obtain ⟨c, hc⟩ := sc_hash 7 (ha v List.mem_cons_self)
    rw [hc]
    refine wpAny_bind (wpAny_pure ?_)
    cases c with
    | true =>
      simp only [Bool.not_true, Bool.false_eq_true, if_false]
      exact wpAny_pure ⟨rfl, fun u hu => ha u (List.mem_cons_of_mem _ hu)⟩
    | false =>
      simp only [Bool.not_false, if_true]
      exact wpAny_pure (by
        show wpAny _ _ _ _ _ _
        exact wpAny_pure (h _))
  · rintro ⟨r1, r2⟩ s' ⟨rfl, _⟩
    cases r1 with
    | none => exact wpAny_pure (h _)
    | some c => exact wpAny_pure (h _)
/-- the search among tuples shows nothing of the table -/
theorem tp_unseen {ks : List κ} {b : Addr} {Q : Bool → Shared → Prop} (hk : IsTupleKey kd s.heap ks b) {ys : List Value} (hy : ∀ y ∈ ys, ∃ k' c, y = Value.ref c ∧ IsTupleKey kd s.heap k' c) (h : Q false s) : wpAny (model P w) A (searchCouldBeSeen (.ref b) ys) Q E s := by
  unfold searchCouldBeSeen
  refine wpAny_bind ?_
  refine wpAny_forIn_list _ (fun rest r s' => r.1 = none ∧ s' = s ∧ ∀ y ∈ rest, ∃ k' c, y = Value.ref c ∧ IsTupleKey kd s.heap k' c) _ ?_ ?_ _ _ ⟨rfl, rfl, hy⟩
  · rintro v rest r s' ⟨hr, rfl, ha⟩
    obtain ⟨k', c, rfl, hc⟩ := ha v List.mem_cons_self
    have more : ∀ y ∈ rest, ∃ k' c, y = Value.ref c ∧ IsTupleKey kd s'.heap k' c := fun u hu => ha u (List.mem_cons_of_mem _ hu)
    dsimp only
    by_cases hv : (b == c || (carriedByValue (.ref b) && carriedByValue (.ref c))) = true
    · exact wp_if_pos hv (wpAny_pure ⟨rfl, rfl, more⟩)
    · refine wp_if_neg hv ?_
      refine wpAny_bind (wpAny_eqIsQuiet_tuple hk ?_)
      simp only [Bool.not_true, Bool.false_eq_true, if_false]
      refine wpAny_bind (wpAny_eqIsQuiet_tuple hc ?_)
      simp only [Bool.not_true, Bool.false_eq_true, if_false]
      refine wpAny_bind (tp_class hk ?_)
      simp only [Bool.false_eq_true, if_false]
      refine wpAny_bind (tp_class hc ?_)
      simp only [Bool.false_eq_true, if_false]
      exact wpAny_pure ⟨rfl, rfl, more⟩
  · rintro ⟨r1, r2⟩ s' ⟨hr, rfl, _⟩
    cases hr
    exact wpAny_pure h
end
/-! ### a set of tuples, by its rows: where each lies, its key -/
section
variable {P : Program} {w : World} {κ : Type} [DecidableEq κ]
def hsh (kd : PySem.KeyKind P w κ) (p : Addr × List κ) : Int := tupleKeyHash kd p.2
def ent (kd : PySem.KeyKind P w κ) (p : Addr × List κ) : Int × Value := (hsh kd p, Value.ref p.1)
structure TSet (kd : PySem.KeyKind P w κ) (h : Heap) (a : Addr) (L : List (Addr × List κ)) (es : Array (Int × Value)) (ep : Nat) (t : SetTable) : Prop where
  ob : ∃ o, h.get? a = some o ∧ o.ExactSet ∧ o.data = .set es ep t
  rows : es.toList = L.map (ent kd)
  tab : TabOk t (L.map (hsh kd))
  nd : (L.map Prod.snd).Nodup
  tup : ∀ p ∈ L, IsTupleKey kd h p.2 p.1
  led : w.params.followText "set-order" = true ∨ t.led = true
  room : L.length * 5 < t.mask * 3
  few : L.length < 64
variable {kd : PySem.KeyKind P w κ} {A : Around} {E : Value → Shared → Prop} {s : Shared} {a : Addr} {L : List (Addr × List κ)} {es : Array (Int × Value)} {ep : Nat} {t : SetTable}
theorem TSet.size {h : Heap} (R : TSet kd h a L es ep t) : es.size = L.length := by
  have z := congrArg List.length R.rows
  rwa [Array.length_toList, List.length_map] at z
theorem fits_of {n : Nat} (h1 : t.place.size = n) (h2 : t.dummies = #[]) (h3 : n ≤ t.mask) : t.fits n = true := by
  unfold SetTable.fits SetTable.fill
  rw [h2, h1, Bool.and_eq_true, beq_iff_eq, decide_eq_true_eq]
  exact ⟨rfl, by show n + 0 ≤ _; omega⟩
theorem TSet.fits {h : Heap} (R : TSet kd h a L es ep t) : t.fits es.size = true := by
  have h1 := R.tab.sz
  rw [List.length_map] at h1
  have h2 := R.size
  have h3 := R.room
  exact fits_of (h1.trans h2.symm) R.tab.dm (by omega)
theorem TSet.at_ {h : Heap} (R : TSet kd h a L es ep t) {i : Nat} {p : Addr × List κ} (e : L[i]? = some p) : es[i]? = some (ent kd p) := by
  rw [← Array.getElem?_toList, R.rows, List.getElem?_map, e]
  rfl
/-- the n-th step of the way that a key goes -/
abbrev stp (t : SetTable) (h : Int) (n : Nat) : SetTable.Probe := nth t.mask (runAt t.mask (SetTable.bits h % (t.mask + 1)) (SetTable.bits h)) n
theorem stp_add (t : SetTable) (h : Int) (c q : Nat) : nth t.mask (stp t h c) q = stp t h (c + q) := (nth_add t.mask c _ q).symm
theorem stp_dummy (t : SetTable) (h : Int) (c : Nat) : (stp t h c).dummy = none := by
  have key : ∀ (n : Nat) (p : SetTable.Probe), p.dummy = none → (nth t.mask p n).dummy = none := by
    intro n
    induction n with
    | zero => exact fun p h => h
    | succ n ih =>
      intro p h
      refine ih (adv t.mask p) ?_
      unfold adv
      split <;> exact h
  exact key c _ rfl
/-- the search from the c-th step on; K: the first free step -/
theorem find_on (R : TSet kd s.heap a L es ep t) {x : Addr} {k : List κ} (hx : IsTupleKey kd s.heap k x) (hu : A.units < cLine) {K : Nat} (hKf : K < 10 * SetTable.turns t.mask) {h : Int} (hh : h = tupleKeyHash kd k)
    (hK : way t.mask h K ∉ t.place.toList) (hKb : ∀ c, c < K → way t.mask h c ∈ t.place.toList) {Q : SetFound → Shared → Prop} (hin : k ∈ L.map Prod.snd → Q (.there none) s) (hout : k ∉ L.map Prod.snd → Q (.free (way t.mask h K) false) s) (f : Nat) :
    ∀ (c : Nat) (stand : Option SetTable.Probe), stand.getD (t.probeStart h) = stp t h c → c ≤ K → K - c < f →
      (∀ (i : Nat) p, L[i]? = some p → p.2 = k → ∃ c', c ≤ c' ∧ c' < K ∧ t.place.toList[i]? = some (way t.mask h c')) → wpAny (model P w) A (setSearchFrom a (.ref x) h true f stand) Q E s := by
  obtain ⟨o, ho, hex, hd⟩ := R.ob
  have hgw : ¬ t.gaveWay = true := by
    unfold SetTable.gaveWay
    rw [mask_odd R.tab.mok]
    decide
  induction f with
  | zero => intro c stand _ _ hf; exact absurd hf (Nat.not_lt_zero _)
  | succ f ih =>
    intro c stand hst hc hf hre
    rw [setSearchFrom_succ]
    refine wpAny_bind (wpAny_setState_of ho hd R.fits ?_)
    dsimp only
    refine wp_if_neg hgw ?_
    try refine wpAny_bind (wpAny_pure ?_)
    have ew : ∀ q, (nth t.mask (stp t h c) q).j = way t.mask h (c + q) := fun q => congrArg SetTable.Probe.j (stp_add t h c q)
    have spec := go_spec t R.tab.ris R.tab.dm (fun i => (es[i]?.map (·.1)).getD 0) h (10 * SetTable.turns t.mask) (K - c) (stp t h c) (stp_dummy t h c) (by omega)
      (fun q hq => by rw [ew]; exact hKb _ (by omega)) (by rw [ew, show c + (K - c) = K by omega]; exact hK)
    have hat : ∀ (i : Nat) p, L[i]? = some p → (es[i]?.map (·.1)).getD 0 = hsh kd p := fun i p hp => by rw [R.at_ hp]; rfl
    have probe : t.probe (fun i => (es[i]?.map (·.1)).getD 0) h (stand.getD (t.probeStart h)) = SetTable.probe.go t (fun i => (es[i]?.map (·.1)).getD 0) h (10 * SetTable.turns t.mask) (stp t h c) := by rw [hst]; rfl
    rw [probe]
    rcases spec with ⟨q, i, hq, hi, hq2, hno, hpr⟩ | ⟨hno, hpr⟩
    · -- one of the same hash
      rw [ew] at hpr hi
      rw [hpr, stp_add]
      dsimp only
      have hil : i < L.length := by
        have h1 : i < t.place.toList.length := (List.getElem?_eq_some_iff.mp hi).1
        have h2 := R.tab.sz
        rw [List.length_map] at h2
        rw [Array.length_toList] at h1
        omega
      obtain ⟨p, hp⟩ : ∃ p, L[i]? = some p := ⟨_, List.getElem?_eq_getElem hil⟩
      have hmem : p ∈ L := List.mem_of_getElem? hp
      have hsl : t.slot (way t.mask h (c + q)) = .live i := slot_live R.tab.ris hi
      have body : wpAny (model P w) A (searchRest a (.ref x) h true f es t (way t.mask h (c + q)) i (stp t h (c + (q + 1)))) Q E s := by
        unfold searchRest
        rw [R.at_ hp]
        dsimp only [ent]
        refine wpAny_bind (wpAny_holding (wpAny_eqBool_tuple hu (R.tup p hmem) hx ?_))
        refine wpAny_bind (wpAny_setState_of ho hd R.fits ?_)
        dsimp only
        by_cases hkk : p.2 = k
        · exact wp_if_pos (by simp [hkk]) (wpAny_pure (hin (List.mem_map.mpr ⟨p, hmem, hkk⟩)))
        · refine wp_if_neg (by simp [hkk]) ?_
          try refine wpAny_bind (wpAny_pure ?_)
          rw [sameMem]
          dsimp only
          simp only [if_true, hsl, R.at_ hp, ent]
          refine wpAny_bind (wpAny_isSame_ref_self (wpAny_bind (wpAny_pure ?_)))
          simp only [if_true]
          refine wp_if_neg (by simp [hkk]) ?_
          refine ih (c + (q + 1)) _ rfl (by omega) (by omega) fun i0 p0 h0 hk0 => ?_
          obtain ⟨c', a1, a2, a3⟩ := hre i0 p0 h0 hk0
          have hp0 : hsh kd p0 = h := by rw [hh]; unfold hsh; rw [hk0]
          refine ⟨c', ?_, a2, a3⟩
          rcases Nat.lt_trichotomy c' (c + q) with z | z | z
          · exact absurd ((hat i0 p0 h0).trans hp0) (hno (c' - c) i0 (by omega) (by rw [ew, show c + (c' - c) = c' by omega]; exact a3))
          · rw [z] at a3
            have s0 := slot_live R.tab.ris a3
            rw [hsl] at s0
            injection s0 with s0
            rw [← s0, hp] at h0
            cases h0
            exact absurd hk0 hkk
          · omega
      by_cases hl : t.led = true
      · refine wp_if_neg (by simp [hl]) ?_
        try refine wpAny_bind (wpAny_pure ?_)
        exact body
      · refine wp_if_pos (by simp [hl]) ?_
        refine wpAny_bind (tp_unseen hx (fun y hy => ?_) ?_)
        · obtain ⟨e, he, rfl⟩ := List.mem_map.mp hy
          have he2 : e ∈ es.toList := by
            have z : e ∈ es ∧ e.1 = h := by simpa using he
            simpa using z.1
          rw [R.rows] at he2
          obtain ⟨p2, hp2, rfl⟩ := List.mem_map.mp he2
          exact ⟨p2.2, p2.1, rfl, R.tup p2 hp2⟩
        · refine wp_if_neg (by decide) ?_
          try refine wpAny_bind (wpAny_pure ?_)
          exact body
    · rw [ew, show c + (K - c) = K by omega] at hpr
      rw [hpr]
      dsimp only
      refine wpAny_pure (hout fun hm => ?_)
      obtain ⟨p0, h0, hk0⟩ := List.mem_map.mp hm
      obtain ⟨i0, hi0⟩ := List.getElem?_of_mem h0
      obtain ⟨c', a1, a2, a3⟩ := hre i0 p0 hi0 hk0
      have hp0 : hsh kd p0 = h := by rw [hh]; unfold hsh; rw [hk0]
      exact absurd ((hat i0 p0 hi0).trans hp0) (hno (c' - c) i0 (by omega) (by rw [ew, show c + (c' - c) = c' by omega]; exact a3))
theorem find_at_ (R : TSet kd s.heap a L es ep t) {x : Addr} {k : List κ} (hx : IsTupleKey kd s.heap k x) (hu : A.units < cLine) {Q : SetFound → Shared → Prop} (hin : k ∈ L.map Prod.snd → Q (.there none) s)
    (hout : ∀ K, k ∉ L.map Prod.snd → way t.mask (tupleKeyHash kd k) K ∉ t.place.toList → (∀ c, c < K → way t.mask (tupleKeyHash kd k) c ∈ t.place.toList) → Q (.free (way t.mask (tupleKeyHash kd k) K) false) s) :
    wpAny (model P w) A (setSearch a (.ref x) (tupleKeyHash kd k) true) Q E s := by
  have hroom := R.room
  obtain ⟨K, hKf, hK, hKb⟩ := R.tab.first (by rw [List.length_map]; omega) (tupleKeyHash kd k)
  have hturn : 10 * SetTable.turns t.mask ≤ 1420 := by
    unfold SetTable.turns
    rcases R.tab.mok with e | e | e <;> omega
  unfold setSearch
  refine find_on R hx hu hKf rfl hK hKb hin (fun hn => hout K hn hK hKb) 100000 0 none rfl (Nat.zero_le _) (by omega) fun i p hp hk => ?_
  have hi : (L.map (hsh kd))[i]? = some (tupleKeyHash kd k) := by rw [List.getElem?_map, hp, ← hk]; rfl
  have hil : i < t.place.toList.length := by
    have h1 : i < L.length := (List.getElem?_eq_some_iff.mp hp).1
    have h2 := R.tab.sz
    rw [List.length_map] at h2
    rw [Array.length_toList]
    omega
  obtain ⟨c, hc, e⟩ := R.tab.before hK hi (List.getElem?_eq_getElem hil)
  exact ⟨c, Nat.zero_le _, hc, by rw [List.getElem?_eq_getElem hil, e]⟩
end
end Bf
set_option Elab.async false
set_option linter.all false
set_option maxRecDepth 100000
set_option maxHeartbeats 4000000
/-! Sets of tuples: putting in. -/
namespace Bf
open PySem PySem.Spec PyProof.Rows L2
section
variable {P : Program} {w : World} {κ : Type} [DecidableEq κ] {kd : PySem.KeyKind P w κ} {A : Around} {E : Value → Shared → Prop} {s : Shared} {a : Addr} {L : List (Addr × List κ)} {es : Array (Int × Value)} {ep : Nat} {t : SetTable}
theorem key_same {h h' : Heap} {ks : List κ} {b : Addr} {o : Obj} (hb : IsTupleKey kd h ks b) (ho : h.get? a = some o) (hd : o.data = .set es ep t) (hs : Heap.SameBut a h h') : IsTupleKey kd h' ks b := by
  obtain ⟨o', items, n, ho', hc, hd', hi⟩ := hb
  have hne : b ≠ a := by
    rintro rfl
    rw [ho] at ho'
    cases ho'
    rw [hd] at hd'
    exact nomatch hd'
  exact ⟨o', items, n, (hs.2 b hne).trans ho', hc, hd', hi⟩
theorem key_keep {h h' : Heap} {ks : List κ} {b : Addr} (x : IsTupleKey kd h ks b) (hk : ∀ c o, h.get? c = some o → h'.get? c = some o) : IsTupleKey kd h' ks b := by
  obtain ⟨o, items, n, ho, r⟩ := x
  exact ⟨o, items, n, hk b o ho, r⟩
/-- the rows picked out of a list by their places -/
theorem pick_rows {α : Type} (L : List α) : ∀ (l : List Nat), (∀ i ∈ l, i < L.length) → ∃ L2 : List α, L2 = l.filterMap (fun i => L[i]?) ∧ L2.length = l.length ∧ ∀ {β : Type} (f : α → β) (g : Nat → β), (∀ (i : Nat) x, L[i]? = some x → g i = f x) → L2.map f = l.map g
  | [], _ => ⟨[], rfl, rfl, fun _ _ _ => rfl⟩
  | i :: l, h => by
    obtain ⟨L2, e1, e2, e3⟩ := pick_rows L l fun j hj => h j (List.mem_cons_of_mem _ hj)
    have hi := h i List.mem_cons_self
    refine ⟨L[i] :: L2, ?_, by rw [List.length_cons, List.length_cons, e2], fun f g hfg => ?_⟩
    · rw [List.filterMap_cons_some (List.getElem?_eq_getElem hi), e1]
    · rw [List.map_cons, List.map_cons, e3 f g hfg, hfg i _ (List.getElem?_eq_getElem hi)]
theorem pick_all {α : Type} (L : List α) : (List.range L.length).filterMap (fun i => L[i]?) = L := by
  have key : ∀ n, n ≤ L.length → (List.range n).filterMap (fun i => L[i]?) = L.take n := by
    intro n
    induction n with
    | zero => intro _; rfl
    | succ n ih =>
      intro hn
      rw [List.range_succ, List.filterMap_append, ih (Nat.le_of_lt hn), List.take_succ, List.getElem?_eq_getElem hn]
      rw [List.filterMap_cons_some (List.getElem?_eq_getElem hn)]
      rfl
  rw [key _ (Nat.le_refl _), List.take_length]
/-- the table laid anew -/
theorem relay_on {o : Obj} (ho : s.heap.get? a = some o) (hex : o.ExactSet) (hd : o.data = .set es ep t) (hr : es.toList = L.map (ent kd)) (hsz : t.place.size = es.size) (hdm : t.dummies = #[]) (hfl : es.size ≤ t.mask) (nd : (L.map Prod.snd).Nodup)
    (tup : ∀ p ∈ L, IsTupleKey kd s.heap p.2 p.1) (ld : w.params.followText "set-order" = true ∨ t.led = true) (few : L.length < 64) {wanted M : Nat} (hw : SetTable.sizeAbove wanted - 1 = M) (hM : MaskOk M) (hw2 : SetTable.sizeAbove wanted ≤ 128) (hn : L.length * 5 < M * 3)
    {Q : Unit → Shared → Prop} (hQ : ∀ h' L' es' ep' t', Heap.SameBut a s.heap h' → TSet kd h' a L' es' ep' t' → L'.Perm L → Q () { s with heap := h' }) : wpAny (model P w) A (setRelay a wanted) Q E s := by
  have hsl : es.size = L.length := by
    have z := congrArg List.length hr
    rwa [Array.length_toList, List.length_map] at z
  obtain ⟨t', order, e, hp, T, em, el, _, _⟩ := relaid_ok t (hs := es.map (·.1)) (wanted := wanted) hw hM (by rw [Array.size_map, hsl]; omega)
  rw [Array.size_map, hsl] at hp
  obtain ⟨L2, l1, l2, l3⟩ := pick_rows L order.toList fun i hi => List.mem_range.mp (hp.mem_iff.mp hi)
  have hat : ∀ (i : Nat) x, L[i]? = some x → es[i]? = some (ent kd x) := fun i x h => by rw [← Array.getElem?_toList, hr, List.getElem?_map, h]; rfl
  have hL2 : L2.Perm L := by
    have z : L2.Perm ((List.range L.length).filterMap fun i => L[i]?) := by rw [l1]; exact hp.filterMap _
    rwa [pick_all] at z
  -- the entries in the new order
  have r1 : (order.filterMap (es[·]?)).toList = L2.map (ent kd) := by
    have z : order.toList.filterMap (fun i => es[i]?) = L2.map (ent kd) := by
      have all : ∀ l : List Nat, (∀ i ∈ l, i < L.length) → l.filterMap (fun i => es[i]?) = (l.filterMap fun i => L[i]?).map (ent kd) := by
        intro l
        induction l with
        | nil => intro _; rfl
        | cons i l ih =>
          intro h
          have hi := List.getElem?_eq_getElem (h i List.mem_cons_self)
          rw [List.filterMap_cons_some (hat i _ hi), List.filterMap_cons_some hi, List.map_cons, ih fun j hj => h j (List.mem_cons_of_mem _ hj)]
      rw [all _ fun i hi => List.mem_range.mp (hp.mem_iff.mp hi), l1]
    first | (rw [Array.toList_filterMap]; exact z) | simpa using z
  have r3 : L2.map (hsh kd) = order.toList.map fun i => (es.map (·.1)).getD i 0 := l3 _ _ fun i x h => by
    have z : (es.map (·.1))[i]? = some (hsh kd x) := by rw [Array.getElem?_map, hat i x h]; rfl
    simp [Array.getD_eq_getD_getElem?, z]
  rw [← r3] at T
  have hs2 : (order.filterMap (es[·]?)).size = es.size := by
    have z := congrArg List.length r1
    rw [Array.length_toList, List.length_map, hL2.length_eq] at z
    rw [z, hsl]
  rw [setRelay_eq]
  refine wpAny_bind (wpAny_setState_of ho hd (fits_of hsz hdm hfl) ?_)
  dsimp only
  refine wp_if_neg (by rw [sizeLine_eq]; omega) ?_
  try refine wpAny_bind (wpAny_pure ?_)
  rw [e]
  dsimp only
  refine wpAny_bind ?_
  refine wp_if_neg (by rw [hs2]; simp) ?_
  try refine wpAny_bind (wpAny_pure ?_)
  refine wpAny_pure ?_
  dsimp only
  refine wpAny_storeSet_of ho hd ?_ (by rw [hs2, hsl, sizeLine_eq]; omega)
  have sb : Heap.SameBut a s.heap (s.heap.update a (Obj.putSet (order.filterMap (es[·]?)) t')) := Heap.SameBut.update ..
  exact hQ _ L2 (order.filterMap (es[·]?)) (ep + 1) t' sb ⟨⟨_, store_at ho hd, ⟨hex.1, hex.2.1, hex.2.2⟩, rfl⟩, r1, T, (hL2.map Prod.snd).nodup_iff.mpr nd, fun p hp => key_same (tup p (hL2.mem_iff.mp hp)) ho hd sb, by rw [el]; exact ld, by rw [hL2.length_eq, em]; exact hn, by rw [hL2.length_eq]; exact few⟩ hL2
/-- one put in -/
theorem add_on (R : TSet kd s.heap a L es ep t) {x : Addr} {k : List κ} (hx : IsTupleKey kd s.heap k x) (hu : A.units < cLine) (hfew : L.length + 1 < 64) {Q : Bool → Shared → Prop}
    (hQ : ∀ b h' L' es' ep' t', Heap.SameBut a s.heap h' → TSet kd h' a L' es' ep' t' → ((k ∈ L.map Prod.snd ∧ L' = L) ∨ (k ∉ L.map Prod.snd ∧ L'.Perm ((x, k) :: L))) → Q b { s with heap := h' }) :
    wpAny (model P w) A (setAddHashed a (.ref x) (tupleKeyHash kd k)) Q E s := by
  obtain ⟨o, ho, hex, hd⟩ := R.ob
  have hsl := R.size
  have hroom := R.room
  unfold setAddHashed
  refine wpAny_holding ?_
  rw [show (100000 : Nat) = 99999 + 1 from rfl, setAddHashedIn_succ]
  refine wpAny_bind (wpAny_setState_of ho hd R.fits ?_)
  dsimp only
  refine wp_if_neg (by simp [byScan, Value.scannable]) ?_
  try refine wpAny_bind (wpAny_pure ?_)
  refine wpAny_bind (find_at_ R hx hu (fun hm => ?_) fun K hm hK hb => ?_)
  · dsimp only
    exact wpAny_pure (hQ false s.heap L es ep t (Heap.SameBut.refl a s.heap) R (.inl ⟨hm, rfl⟩))
  dsimp only
  refine wpAny_bind (wpAny_setState_of ho hd R.fits ?_)
  dsimp only
  obtain ⟨q1, q2, q3, q4, q5, q6, q7, q8, q9⟩ := R.tab.put hK hb
  generalize hj : way t.mask (tupleKeyHash kd k) K = j at *
  generalize hpt : t.put j = pt at *
  obtain ⟨t1, p⟩ := pt
  dsimp only at q1 q3 q4 q5 q6 q7 q8 q9 ⊢
  -- behind the question how its hash is known
  have rest : ∀ c : Bool, wpAny (model P w) A (do
      storeSet a (SetTable.insertAt es p (tupleKeyHash kd k, Value.ref x)) (if c = true then t1 else { t1 with plain := false })
      if (!false && (if c = true then t1 else { t1 with plain := false }).tooFull) = true then setRelay a (SetTable.grown (es.size + 1))
      pure true) Q E s := fun c => by
    have g : ∃ t2 : SetTable, (if c = true then t1 else { t1 with plain := false }) = t2 ∧ t2.place = t1.place ∧ t2.dummies = t1.dummies ∧ t2.mask = t1.mask ∧ t2.led = t1.led ∧ t2.fill = t1.fill ∧ t2.tooFull = t1.tooFull := by
      cases c
      · exact ⟨_, rfl, rfl, rfl, rfl, rfl, rfl, rfl⟩
      · exact ⟨_, rfl, rfl, rfl, rfl, rfl, rfl, rfl⟩
    obtain ⟨t2, e2, g1, g2, g3, g4, g5, g6⟩ := g
    rw [e2]
    have hin : (SetTable.insertAt es p (tupleKeyHash kd k, Value.ref x)).toList = (L.take p ++ (x, k) :: L.drop p).map (ent kd) := by
      rw [SetTable.toList_insertAt, R.rows, List.map_append, List.map_cons, List.map_take, List.map_drop]
      rfl
    have pm := put_perm L p (x, k)
    have hlen : (L.take p ++ (x, k) :: L.drop p).length = L.length + 1 := pm.length_eq
    have hT : TabOk t2 ((L.take p ++ (x, k) :: L.drop p).map (hsh kd)) := by
      have z : (L.take p ++ (x, k) :: L.drop p).map (hsh kd) = (L.map (hsh kd)).take p ++ tupleKeyHash kd k :: (L.map (hsh kd)).drop p := by
        rw [List.map_append, List.map_cons, List.map_take, List.map_drop]
        rfl
      rw [z, q1]
      exact ⟨by rw [g1]; exact q3.ris, by rw [g2]; exact q3.dm, by rw [g1]; exact q3.sz, by rw [g3]; exact q3.mok, by rw [g1, g3]; exact q3.bd, by rw [g1, g3]; exact q3.reach⟩
    have nd1 : ((L.take p ++ (x, k) :: L.drop p).map Prod.snd).Nodup := (pm.map Prod.snd).nodup_iff.mpr (List.nodup_cons.mpr ⟨hm, R.nd⟩)
    generalize L.take p ++ (x, k) :: L.drop p = L1 at *
    generalize SetTable.insertAt es p (tupleKeyHash kd k, Value.ref x) = es1 at *
    have hes : es1.size = L.length + 1 := by
      have z := congrArg List.length hin
      rw [Array.length_toList, List.length_map, hlen] at z
      exact z
    refine wpAny_bind (wpAny_storeSet_of ho hd ?_ (by rw [hes, sizeLine_eq]; omega))
    have sb : Heap.SameBut a s.heap (s.heap.update a (Obj.putSet es1 t2)) := Heap.SameBut.update ..
    have ho1 := store_at (es' := es1) (t' := t2) ho hd
    generalize s.heap.update a (Obj.putSet es1 t2) = h1 at sb ho1 ⊢
    have tup1 : ∀ p ∈ L1, IsTupleKey kd h1 p.2 p.1 := fun p hp => by
      rcases List.mem_cons.mp (pm.mem_iff.mp hp) with e | hp
      · rw [e]; exact key_same hx ho hd sb
      · exact key_same (R.tup p hp) ho hd sb
    have ld1 : w.params.followText "set-order" = true ∨ t2.led = true := by rw [g4, q5]; exact R.led
    have few1 : L1.length < 64 := by rw [hlen]; exact hfew
    have hfill : t2.fill = L.length + 1 := by rw [g5, q9, List.length_map]
    by_cases hf : t2.tooFull = true
    · have hfull : (L.length + 1) * 5 ≥ t2.mask * 3 := by
        have z := hf
        unfold SetTable.tooFull at z
        rwa [decide_eq_true_eq, hfill] at z
      have hmk : t2.mask = t.mask := g3.trans q4
      have hsz1 : t2.place.size = es1.size := by rw [hT.sz, List.length_map, hlen, hes]
      have size : (t.mask = 7 ∧ L.length = 4) ∨ (t.mask = 31 ∧ L.length = 18) := by
        rcases R.tab.mok with e | e | e
        · left; rw [hmk, e] at hfull; rw [e] at hroom; exact ⟨e, by omega⟩
        · right; rw [hmk, e] at hfull; rw [e] at hroom; exact ⟨e, by omega⟩
        · exfalso; rw [hmk, e] at hfull; omega
      have go : ∀ M, SetTable.sizeAbove (SetTable.grown (L.length + 1)) - 1 = M → MaskOk M → SetTable.sizeAbove (SetTable.grown (L.length + 1)) ≤ 128 → (L.length + 1) * 5 < M * 3 →
          wpAny (model P w) A (setRelay a (SetTable.grown (L.length + 1))) (fun _ s' => wpAny (model P w) A (pure true) Q E s') E { s with heap := h1 } := fun M m1 m2 m3 m4 =>
        relay_on (s := { s with heap := h1 }) ho1 ⟨hex.1, hex.2.1, hex.2.2⟩ rfl hin hsz1 hT.dm (by rw [hes, hmk]; rcases size with ⟨e, e2⟩ | ⟨e, e2⟩ <;> omega) nd1 tup1 ld1 few1 m1 m2 m3 (by rw [hlen]; exact m4)
          fun h2 L2 es2 ep2 t2 sb2 R2 pm2 => wpAny_pure (hQ true h2 L2 es2 ep2 t2 (sb.trans sb2) R2 (.inr ⟨hm, pm2.trans pm⟩))
      rw [hsl]
      first
        | (refine wpAny_bind ?_; refine wp_if_pos (by simp [hf]) ?_)
        | (refine wp_if_pos (by simp [hf]) ?_; refine wpAny_bind ?_)
      rcases size with ⟨_, z⟩ | ⟨_, z⟩
      · exact go 31 (by rw [z, size_20]) (.inr (.inl rfl)) (by rw [z, size_20]; decide) (by omega)
      · exact go 127 (by rw [z, size_76]) (.inr (.inr rfl)) (by rw [z, size_76]; decide) (by omega)
    · first
        | refine wp_if_neg (by simp [hf]) ?_
        | (refine wpAny_bind ?_; refine wp_if_neg (by simp [hf]) ?_; refine wpAny_pure ?_)
      refine wpAny_pure (hQ true h1 L1 es1 (ep + 1) t2 sb ⟨⟨_, ho1, ⟨hex.1, hex.2.1, hex.2.2⟩, rfl⟩, hin, hT, nd1, tup1, ld1, ?_, few1⟩ (.inr ⟨hm, pm⟩))
      have z := hf
      unfold SetTable.tooFull at z
      rw [decide_eq_true_eq, hfill] at z
      rw [hlen]
      omega
  by_cases hpl : t1.plain = true
  · first
      | (refine wpAny_bind ?_; refine wp_if_pos hpl ?_; refine tp_hash hx fun c => ?_; exact rest c)
      | (refine wp_if_pos hpl (wpAny_bind (tp_hash hx fun c => ?_)); exact rest c)
  · first
      | (refine wpAny_bind ?_; refine wp_if_neg hpl ?_; refine wpAny_pure ?_; exact rest true)
      | (refine wp_if_neg hpl ?_; exact rest true)
end
end Bf
set_option Elab.async false
set_option linter.all false
set_option maxRecDepth 100000
set_option maxHeartbeats 4000000
/-! Sets of tuples: set(list), sorted(set). -/
namespace Bf
open PySem PySem.Spec PyProof.Rows L2
section
variable {P : Program} {w : World} {κ : Type} [DecidableEq κ] {kd : PySem.KeyKind P w κ} {A : Around} {E : Value → Shared → Prop} {s : Shared} {a : Addr} {L : List (Addr × List κ)} {es : Array (Int × Value)} {ep : Nat} {t : SetTable}
/-- what the set has from the first i items -/
structure Has (ks : List (Addr × List κ)) (i : Nat) (L : List (Addr × List κ)) : Prop where
  sub : ∀ p ∈ L, p ∈ ks.take i
  all : ∀ p ∈ ks.take i, p.2 ∈ L.map Prod.snd
  len : L.length ≤ i
theorem Has.step {ks L L' : List (Addr × List κ)} {i : Nat} {x : Addr × List κ} (g : Has ks i L) (h : ks[i]? = some x) (c : (x.2 ∈ L.map Prod.snd ∧ L' = L) ∨ (x.2 ∉ L.map Prod.snd ∧ L'.Perm (x :: L))) : Has ks (i + 1) L' := by
  have tk := take_next h
  rcases c with ⟨hm, rfl⟩ | ⟨_, pm⟩
  · refine ⟨fun p hp => by rw [tk]; exact List.mem_append_left _ (g.sub p hp), fun p hp => ?_, Nat.le_succ_of_le g.len⟩
    rw [tk] at hp
    rcases List.mem_append.mp hp with z | z
    · exact g.all p z
    · rw [List.mem_singleton.mp z]; exact hm
  · refine ⟨fun p hp => ?_, fun p hp => ?_, by rw [pm.length_eq, List.length_cons]; exact Nat.succ_le_succ g.len⟩
    · rw [tk]
      rcases List.mem_cons.mp (pm.mem_iff.mp hp) with e | z
      · rw [e]; exact List.mem_append_right _ List.mem_cons_self
      · exact List.mem_append_left _ (g.sub p z)
    · rw [(pm.map Prod.snd).mem_iff, List.map_cons]
      rw [tk] at hp
      rcases List.mem_append.mp hp with z | z
      · exact List.mem_cons_of_mem _ (g.all p z)
      · rw [List.mem_singleton.mp z]; exact List.mem_cons_self
theorem TSet.keep {h h' : Heap} (R : TSet kd h a L es ep t) (ha : ∀ o, h.get? a = some o → h'.get? a = some o) (ht : ∀ p ∈ L, IsTupleKey kd h' p.2 p.1) : TSet kd h' a L es ep t := by
  obtain ⟨o, ho, r⟩ := R.ob
  exact ⟨⟨o, ha o ho, r⟩, R.rows, R.tab, R.nd, ht, R.led, R.room, R.few⟩
abbrev newSetO (w : World) : Obj := { cls := .type "set", dict := none, data := .set #[] 0 (.fresh 0 0 (!w.params.followText "set-order")) }
theorem tset_new {h : Heap} (ho : h.get? a = some (newSetO w)) : TSet kd h a [] #[] 0 (.fresh 0 0 (!w.params.followText "set-order")) := by
  refine ⟨⟨_, ho, ⟨rfl, rfl, rfl⟩, rfl⟩, rfl, ⟨List.Pairwise.nil, rfl, rfl, .inl rfl, fun x hx => (by cases hx), fun i h j hi => (by simp at hi)⟩, List.nodup_nil, fun p hp => (by cases hp), ?_, by show 0 * 5 < 7 * 3; decide, by show 0 < 64; decide⟩
  show _ ∨ (!w.params.followText "set-order") = true
  cases w.params.followText "set-order"
  · exact .inr rfl
  · exact .inl rfl
/-- the loop that puts all in -/
theorem put_all {I : Addr} {fp wr : List Addr} {G : Array GenState → Array GenState → Prop} {n : Nat} {Pv : Nat → Value → Prop} {St : Nat → Shared → Prop} {R : Result → Shared → Prop} (W : WalksS P w A.in1 I fp wr G n Pv St) (S : Addr) (hSf : S ∉ fp)
    (ks : List (Addr × List κ)) (hn : n = ks.length) (hfew : ks.length < 64) (hval : ∀ i v, Pv i v → ∃ p, ks[i]? = some p ∧ v = .ref p.1) (h0 : Heap) (hk : ∀ p ∈ ks, IsTupleKey kd h0 p.2 p.1) (hS0 : h0.get? S = none) (hw0 : ∀ b ∈ wr, h0.get? b = none) (hu : A.in1.units < cLine) (m : Nat) :
    ∀ (i : Nat) (s : Shared), n - i = m → i ≤ n → St i s → (∀ b o, h0.get? b = some o → s.heap.get? b = some o) → (∃ L es ep t, TSet kd s.heap S L es ep t ∧ Has ks i L) →
      (∀ s' L es ep t, Moved (S :: wr) G s s' → TSet kd s'.heap S L es ep t → Has ks n L → (∀ b o, h0.get? b = some o → s'.heap.get? b = some o) → R (.ok (.ret .none)) s') → codeAny (model P w) A (.builtin "set.update.loop" ⟨[.ref S, .ref I], []⟩) R s := by
  have hSw : S ∉ wr := fun h => hSf (W.sub _ h)
  have hsub : ∀ b ∈ wr, b ∈ S :: wr := fun b hb => List.mem_cons_of_mem _ hb
  have mv : ∀ {s s' : Shared}, Moved wr G s s' → (∀ b o, h0.get? b = some o → s.heap.get? b = some o) → ∀ b o, h0.get? b = some o → s'.heap.get? b = some o := fun hm hkp b o e => hm.heap b o (fun hb => by rw [hw0 b hb] at e; cases e) (hkp b o e)
  have carry : ∀ {s s' : Shared} {L : List (Addr × List κ)} {es : Array (Int × Value)} {ep : Nat} {t : SetTable} {i : Nat}, Moved wr G s s' → (∀ b o, h0.get? b = some o → s'.heap.get? b = some o) → Has ks i L → TSet kd s.heap S L es ep t → TSet kd s'.heap S L es ep t := fun hm hkp g hS =>
    hS.keep (fun o e => hm.heap S o hSw e) fun p hp => key_keep (hk p (List.mem_of_mem_take (g.sub p hp))) hkp
  induction m with
  | zero =>
    intro i s hm0 hi hst hkp ⟨L, es, ep, t, hS, g⟩ hR
    obtain rfl : i = n := by omega
    refine codeAny_builtin F.entry_set_update_loop ?_
    rw [Around.under_plainId F.plain_set_update_loop _]
    show wpAny _ A.in1 (pyNext (.ref I) >>= _) _ _ s
    refine wpAny_bind (W.done s _ _ hst fun s' hm => ?_)
    show wpAny _ A.in1 (ret Value.none) _ _ s'
    exact wpAny_pure (hR s' L es ep t (hm.mono hsub) (carry hm (mv hm hkp) g hS) g (mv hm hkp))
  | succ m ih =>
    intro i s hm0 hi hst hkp ⟨L, es, ep, t, hS, g⟩ hR
    have hlt : i < n := by omega
    refine codeAny_builtin F.entry_set_update_loop ?_
    rw [Around.under_plainId F.plain_set_update_loop _]
    show wpAny _ A.in1 (pyNext (.ref I) >>= _) _ _ s
    refine wpAny_bind (W.item i s _ _ hlt hst fun v s' hP hst' hm => ?_)
    obtain ⟨p, hp, rfl⟩ := hval i v hP
    have hkp' := mv hm hkp
    have hx : IsTupleKey kd s'.heap p.2 p.1 := key_keep (hk p (List.mem_of_getElem? hp)) hkp'
    have hS' : TSet kd s'.heap S L es ep t := carry hm hkp' g hS
    show wpAny _ A.in1 (holding [Value.ref p.1] (setAdd S (.ref p.1)) >>= _) _ _ s'
    refine wpAny_bind (wpAny_holding ?_)
    unfold setAdd
    refine wpAny_holding ?_
    refine wpAny_bind (wpAny_pyHash_tuple hu hx ?_)
    refine add_on (s := { s' with toks := s'.toks + (p.2.length + 1) }) hS' hx hu (by have := g.len; omega) fun b h' L' es' ep' t' hsb hS2 hc => ?_
    have hkp2 : ∀ b o, h0.get? b = some o → h'.get? b = some o := fun b o e => (hsb.2 b (fun z => by rw [z, hS0] at e; cases e)).trans (hkp' b o e)
    refine wpAny_pure ⟨plainId_quiet F.plain_set_update_loop _, ih (i + 1) _ (by omega) hlt (W.frame _ s' _ _ hst' (Nat.le_add_right _ _) fun b hb o e => ?_) hkp2 ⟨L', es', ep', t', hS2, g.step hp hc⟩ fun s'' L2 es2 ep2 t2 hm'' hS'' g'' hkp'' => ?_⟩
    · rw [hsb.2 b (fun h : b = S => hSf (by rw [← h]; exact hb))]; exact e
    · refine hR s'' L2 es2 ep2 t2 (Moved.trans W.gtrans ((hm.mono hsub).then_heap (Nat.le_add_right _ _) fun b o hb e => ?_) hm'') hS'' g'' hkp''
      rw [hsb.2 b (fun h : b = S => hb (by rw [h]; exact List.mem_cons_self))]; exact e
set_option maxRecDepth 100000 in
set_option maxHeartbeats 8000000 in
/-- set(xs), xs a list of tuples -/
theorem call_setG {l : Addr} {items : Array Value} (ks : List (Addr × List κ)) {Q : Value → Shared → Prop} (hh : A.handled = none) (hl : s.heap.IsList l items) (hit : items.toList = ks.map fun p => Value.ref p.1) (hk : ∀ p ∈ ks, IsTupleKey kd s.heap p.2 p.1) (hfew : ks.length < 64) (hu : A.units + 3 < cLine)
    (h : ∀ (h' : Heap) (tk : Nat) L es ep t, TSet kd h' s.heap.objs.size L es ep t → Has ks ks.length L → (∀ b o, s.heap.get? b = some o → h'.get? b = some o) → Q (.ref s.heap.objs.size) { s with heap := h', toks := tk }) :
    wpAny (model P w) A (call (.type "set") [.ref l]) Q E s := by
  have hisz : items.size = ks.length := by
    have q := congrArg List.length hit
    rwa [Array.length_toList, List.length_map] at q
  obtain ⟨c, tl, hmro⟩ := F.called_set.mro
  have hmade := F.called_set.made
  have hsub := F.called_set.sub
  refine wpAny_call (codeAny_of_tree ?_)
  show wpAny _ _ (callAny (.type "set") _) _ _ _
  refine wpAny_pure ⟨Code.quiet_builtin _ (by decide +kernel), codeAny_builtin F.entry_type_call ?_⟩
  rw [Around.under_plain (weight_type_call_type "set" [.ref l] []) rfl]
  have h1 := F.called_set.notType
  have h2 := F.called_set.canCreate
  have hct := F.typeCall_set_1 (.ref l)
  repeat (any_goals (first | assumption | wp_step))
  refine codeAny_mono (code_set_led1 (.ref l) (E := E) (Q₁ := fun obj s₁ => obj = .ref s.heap.objs.size ∧ s₁ = { s with heap := s.heap.push (newSetO w) }) ⟨rfl, rfl⟩) fun r s₁ hr => ?_
  cases r with
  | error e => exact hr
  | ok fl =>
    cases fl with
    | ret obj =>
      obtain ⟨rfl, rfl⟩ := hr
      have hS : (s.heap.push (newSetO w)).get? s.heap.objs.size = some (newSetO w) := Heap.get?_push_size _ rfl
      have hT : Shared.TypeIs { s with heap := s.heap.push (newSetO w) } (.ref s.heap.objs.size) "set" := ⟨_, hS, rfl⟩
      have hli := F.called_set.init.lookup
      have hbi := F.called_set.init.bind (.ref s.heap.objs.size)
      repeat (any_goals (first | assumption | wp_step))
      refine codeAny_mono (codeAny_call_builtin (R := wants (fun r s₂ => r = .none ∧ ∃ h' tk L es ep t, s₂ = { s with heap := h', toks := tk } ∧ TSet kd h' s.heap.objs.size L es ep t ∧ Has ks ks.length L ∧ (∀ b o, s.heap.get? b = some o → h'.get? b = some o)) E)
        F.called_set.init.plain F.entry_set_init (check_set_init_1 hT ?_)) fun r₂ s₂ hr₂ => ?_
      · obtain ⟨ol, hol, hcl, nl, hdl⟩ := hl
        obtain ⟨ocls, odict, odata, oslots⟩ := ol
        simp only at hcl hdl
        subst hcl; subst hdl
        have hol' : (s.heap.push (newSetO w)).get? l = some { cls := .type "list", dict := odict, data := .seq items nl, slots := oslots } := Heap.get?_push_of_some _ hol
        have hsls := F.sub_list_set
        have hslf := F.sub_list_frozenset
        have hne : (Value.type "list" == Value.type "dict") = false := by decide
        have hl1 : (s.heap.push (newSetO w)).IsList l items := ⟨_, hol', rfl, nl, rfl⟩
        unfold Builtin.«set.__init__» noKeywords Builtin.Frozenset.updateFrom
        generalize hPI : pyIter = PI
        wp_walk
        subst hPI
        refine wpAny_pyIter_list hl1 ?_
        refine wpAny_bind (wpAny_runValue ?_)
        have hlS : l < s.heap.objs.size := Heap.lt_size hol
        have hh3 : A.in1.in1.in1.handled = none := by simp [hh]
        have hz1 : (s.heap.push (newSetO w)).objs.size = s.heap.objs.size + 1 := Heap.size_push ..
        have hneI : l ≠ (s.heap.push (newSetO w)).objs.size := by
          rw [hz1]; exact Nat.ne_of_lt (Nat.lt_succ_of_lt hlS)
        have hSf : s.heap.objs.size ∉ [(s.heap.push (newSetO w)).objs.size, l] := by
          rw [hz1]; simp only [List.mem_cons, List.not_mem_nil, or_false, not_or]
          exact ⟨Nat.ne_of_lt (Nat.lt_succ_self _), Nat.ne_of_gt hlS⟩
        have hval : ∀ (i : Nat) (v : Value), items[i]? = some v → ∃ p, ks[i]? = some p ∧ v = .ref p.1 := fun i v hv => by
          have q : items.toList[i]? = some v := by rw [Array.getElem?_toList]; exact hv
          rw [hit, List.getElem?_map] at q
          obtain ⟨p, hp, e⟩ := Option.map_eq_some_iff.mp q
          exact ⟨p, hp, e.symm⟩
        have free : ∀ b, s.heap.objs.size ≤ b → s.heap.get? b = none := fun b hb => by
          cases q : s.heap.get? b with
          | none => rfl
          | some o => exact absurd (Nat.lt_of_lt_of_le (Heap.lt_size q) hb) (Nat.lt_irrefl _)
        refine put_all ((Walks.list hh3 _ l hneI items).toS) s.heap.objs.size hSf ks hisz hfew hval s.heap hk (free _ (Nat.le_refl _)) (fun b hb => free b (by
            rw [List.mem_singleton.mp hb, hz1]
            exact Nat.le_succ _)) hu (items.size - 0) 0 _ (by omega) (Nat.zero_le _)
          ⟨⟨_, Heap.get?_push_size _ rfl, rfl, rfl⟩, (hl1.push _)⟩ (fun b o e => Heap.get?_push_of_some _ (Heap.get?_push_of_some _ e)) ?hS0 ?hR
        case hS0 =>
          have hget : ((s.heap.push (newSetO w)).push { cls := .type "list_iterator", data := .fields #[.ref l, .int 0 0] }).get? s.heap.objs.size = some (newSetO w) := Heap.get?_push_of_some _ hS
          exact ⟨[], #[], 0, _, tset_new hget, ⟨fun p h => (by cases h), fun p h => (by simp at h), Nat.le_refl _⟩⟩
        case hR =>
          intro s' L es ep t hm hS' g' hkp
          obtain ⟨h', g2, d', tk', os'⟩ := s'
          have eg : g2 = s.gens := hm.gens
          have ed : d' = s.drawn := hm.drawn
          have eo : os' = s.os := hm.os
          subst eg; subst ed; subst eo
          show wpAny _ _ _ _ _ _
          refine wpAny_pure ?_
          show wpAny _ _ (ret Value.none) _ _ _
          rw [hisz] at g'
          exact wpAny_pure ⟨rfl, h', tk', L, es, ep, t, rfl, hS', g', hkp⟩
      · cases r₂ with
        | error e => exact hr₂
        | ok fl₂ =>
          cases fl₂ with
          | ret r =>
            obtain ⟨rfl, h', tk, L, es, ep, t, rfl, hS', g', hk'⟩ := hr₂
            repeat (any_goals (first | assumption | wp_step))
            exact h _ _ _ _ _ _ hS' g' hk'
          | _ => exact hr₂.elim
    | _ => exact hr.elim
end
end Bf
set_option Elab.async false
set_option linter.all false
set_option maxRecDepth 100000
set_option maxHeartbeats 4000000
/-! Tuples sorted, the empty one too (the kit's rule wants none or all to have an item). -/
namespace Bf
open PySem PySem.Spec PyProof.Rows L2 PySem.W
section
variable {prog : Program} {w : World} {A : Around} {E : Value → Shared → Prop} {s : Shared}
/-- tuple's own <, called -/
theorem call_tuple_lt {Q : Value → Shared → Prop} {l b : Addr} {items items2 : Array Value} {e r : Nat → Bool} (hl : s.heap.IsTuple l items) (hb : s.heap.IsTuple b items2)
    (he : ∀ j (h1 : j < items.size) (h2 : j < items2.size), SeqAt.EqAt A.in1 s items[j] items2[j] (e j)) (hr : ∀ j (h1 : j < items.size) (h2 : j < items2.size), e j = false → SeqAt.RcLt A.in1 s items[j] items2[j] (r j))
    (h : Q (.bool (SeqAt.firstLt e r (decide (items.size < items2.size)) (List.range (min items.size items2.size)))) s) : wpAny (model prog w) A (call (.builtin "tuple.__lt__") [.ref l, .ref b]) Q E s := by
  obtain ⟨⟨cls, dd, data, sl⟩, ho, hc, n, hd⟩ := id hl
  obtain ⟨⟨cls2, dd2, data2, sl2⟩, ho2, hc2, n2, hd2⟩ := id hb
  simp only at hc hd hc2 hd2
  subst hc hd hc2 hd2
  exact call_meets F.slot_tuple_lt ⟨_, ho, rfl⟩ F.entry_tuple_lt (F.args_tuple_lt_2 _ _) (SeqAt.tuple_ltAt l b items items2 n n2 dd dd2 sl sl2 e r) ⟨ho, ho2, he, hr, h⟩
/-- one tuple against another where all keys are of one type -/
theorem one_tup {xs ys : List PyData} {a b : Value} {as bs : List Addr} {Q : Bool → Shared → Prop} (ra : Reads s.heap a (.tuple xs) as) (rb : Reads s.heap b (.tuple ys) bs) (h : alike (.tuple xs) (.tuple ys) = true)
    (hu : A.units + min (PyData.tuple xs).depth (PyData.tuple ys).depth < cLine) (hq : Q (dataLt (.tuple xs) (.tuple ys)) s) : wpAny (model prog w) A (oneLt' true a b) Q E s := by
  have hal : alikeAll xs ys = true := by simpa [alike] using h
  cases ra with
  | @tuple l o vs n _ as₁ h1 h2 h3 h4 =>
    cases rb with
    | @tuple l' o' vs' n' _ bs₁ k1 k2 k3 k4 =>
      have n1 : vs.size = xs.length := by simpa using SeqAt.ReadsAll.length _ _ _ h4
      have n2 : vs'.size = ys.length := by simpa using SeqAt.ReadsAll.length _ _ _ k4
      rw [dataLt_tuple, ← firstLt_toks xs ys hal, ← n1, ← n2] at hq
      rw [oneLt'_eq]
      simp only [if_true]
      refine wpAny_bind (wpAny_cRoomFor (SeqAt.room_here hu) ?_)
      refine wpAny_bind (wpAny_callSpecialIfBound?_slot (T := "tuple") ⟨_, h1, h2⟩ F.slot_tuple_lt (call_tuple_lt (e := SeqAt.pairEq xs ys) (r := fun j => dataLt (xs.getD j .none) (ys.getD j .none)) ⟨_, h1, h2, _, h3⟩ ⟨_, k1, k2, _, k3⟩ (fun j j1 j2 => ?_) (fun j j1 j2 hj => ?_) ?_))
      · have := eqAt_alikeAll xs ys A.in1 s vs.toList vs'.toList _ _ h4 k4 hal (SeqAt.room_in hu) j (by simpa using j1) (by simpa using j2)
        simpa using this
      · have := rcLt_alikeAll xs ys A.in1 s vs.toList vs'.toList _ _ h4 k4 hal (SeqAt.room_in hu) j (by simpa using j1) (by simpa using j2) hj
        simpa using this
      · exact wpAny_truthy_bool hq
def hasItem : PyData → Bool
  | .tuple (_ :: _) => true
  | _ => false
theorem firsts_of_tups {M : Model} : ∀ {vs : List Value} {ds : List PyData} {Q : List (Option Value) → Shared → Prop}, EachIs (fun v d => ∃ as, Reads s.heap v d as) vs ds → (∀ d ∈ ds, ∃ xs, d = .tuple xs) → (∀ os : List (Option Value), os.map Option.isSome = ds.map hasItem → Q os s) → wpAny M A (vs.mapM firstOfTuple') Q E s
  | _, _, Q, .nil, _, h => by rw [List.mapM_nil]; exact wpAny_pure (h [] rfl)
  | _, _, Q, .cons (a := v) (b := d) (as := vs) (bs := ds) ⟨as, r⟩ t, ht, h => by
    obtain ⟨xs, rfl⟩ := ht _ List.mem_cons_self
    cases r with
    | @tuple l o items n _ as₁ h1 h2 h3 h4 =>
      rw [List.mapM_cons]
      refine wpAny_bind ?_
      rw [kas_first_eq]
      refine wpAny_bind (Looks.here (show Looks M s.heap (typeOf (.ref l)) o.cls from (Looks.ld h1).andThen .now) ?_)
      rw [h2, if_neg (by first | decide | simp)]
      refine wpAny_bind (listItems_at h1 h3 (wpAny_pure ?_))
      refine wpAny_bind (firsts_of_tups t (fun d hd => ht d (List.mem_cons_of_mem _ hd)) fun os hos => wpAny_pure (h _ ?_))
      rw [List.map_cons, List.map_cons, hos]
      congr 1
      have hl : items.size = xs.length := by simpa using SeqAt.ReadsAll.length _ _ _ h4
      cases xs with
      | nil =>
        have : items[0]? = none := by simp at hl; simp [hl]
        rw [this]
        rfl
      | cons x r =>
        have hp : 0 < items.size := by rw [hl]; exact Nat.succ_pos _
        rw [Array.getElem?_eq_getElem hp]
        rfl
/-- alike tuples, some of them empty, can be sorted -/
theorem sorts_tups {vs : List Value} {ds : List PyData} (e : EachIs (fun v d => ∃ as, Reads s.heap v d as) vs ds) (hal : PySem.W.AllAlike ds) (ht : ∀ d ∈ ds, ∃ xs, d = .tuple xs) (hu : ∀ d, d ∈ ds → A.units + d.depth < cLine) : SortsAt prog w A s (dataKind s.heap ds) vs := by
  by_cases hall : ds.all hasItem = true
  · refine SortsAt.data e hal (.inl fun d hd => ?_) hu
    have z := List.all_eq_true.mp hall d hd
    obtain ⟨xs, rfl⟩ := ht d hd
    cases xs with
    | nil => cases z
    | cons x r => exact ⟨x, r, rfl⟩
  have room : ∀ {d d' : PyData}, d ∈ ds → A.units + min d.depth d'.depth < cLine := fun {d d'} hd => Nat.lt_of_le_of_lt (Nat.add_le_add_left (Nat.min_le_left _ _) _) (hu d hd)
  refine ⟨fun v hv => ?_, if (ds.map hasItem)[0]? = some true then general' else oneType', ?_, fun h2 E Q hq => ?_⟩
  · obtain ⟨d, hd, as, r⟩ := e.left v hv
    exact ⟨_, dataKind_some hal hd r⟩
  · intro E x y a b Q ha hb hq
    obtain ⟨d, as, hd, ra, rfl⟩ := dataKind_inv ha
    obtain ⟨d', as', hd', rb, rfl⟩ := dataKind_inv hb
    obtain ⟨xs, rfl⟩ := ht d hd
    obtain ⟨ys, rfl⟩ := ht d' hd'
    by_cases hc : (ds.map hasItem)[0]? = some true
    · rw [if_pos hc]
      exact oneLt_alike (f := false) (fun z => nomatch z) ra rb (hal _ hd _ hd') (fun z => nomatch z) (room hd) hq
    · rw [if_neg hc]
      exact one_tup ra rb (hal _ hd _ hd') (room hd) hq
  · have hTy : ∀ v ∈ vs, Looks (model prog w) s.heap (typeOf v) (Value.type "tuple") := fun v hv => by
      obtain ⟨d, hd, as, r⟩ := e.left v hv
      obtain ⟨xs, rfl⟩ := ht d hd
      exact looks_reads r
    rw [keyKind'_eq, List.mapM_toArray, map_eq_pure_bind]
    refine wpAny_bind (wpAny_bind (firsts_of_tups e ht fun os hos => wpAny_pure ?_))
    have hno : (os.toArray.all fun x => x.isSome) = false := by
      rw [List.all_toArray]
      have z : os.all (fun x => x.isSome) = (os.map Option.isSome).all id := by rw [List.all_map]; rfl
      rw [z, hos, List.all_map]
      cases q : ds.all hasItem with
      | true => exact absurd q hall
      | false => exact q
    rw [if_neg (by rw [hno]; decide)]
    have h0 : ((os.toArray[0]?).bind id).isSome = decide ((ds.map hasItem)[0]? = some true) := by
      rw [← hos]
      cases os with
      | nil => rfl
      | cons o r => cases o <;> rfl
    rw [h0]
    by_cases hc : (ds.map hasItem)[0]? = some true
    · rw [if_pos (decide_eq_true hc)]
      rw [if_pos hc] at hq
      exact wpAny_pure hq
    · rw [if_neg (by rw [decide_eq_false hc]; decide)]
      rw [if_neg hc] at hq
      obtain ⟨v₁, rest, rfl⟩ : ∃ v₁ rest, vs = v₁ :: rest := by
        cases vs with
        | nil => simp at h2
        | cons v r => exact ⟨v, r, rfl⟩
      rw [oneTypeOnly'_eq, List.mapM_toArray, map_eq_pure_bind]
      refine wpAny_bind (wpAny_bind (wpAny_bind (kas_mapM (r := Value.type "tuple") _ (fun v hv Q' hq => (hTy v hv).here hq) (wpAny_pure ?_))))
      have hall2 : ((List.map (fun _ => Value.type "tuple") (v₁ :: rest)).toArray.all fun x => x == Value.type "tuple") = true := by
        simp only [List.all_toArray, List.all_map, List.all_eq_true]
        intro _ _
        exact beq_self_eq_true _
      have h00 : (List.map (fun _ => Value.type "tuple") (v₁ :: rest)).toArray[0]? = some (Value.type "tuple") := by simp
      rw [h00]
      simp only [hall2, if_true]
      exact wpAny_pure (wpAny_pure hq)
end
end Bf
set_option Elab.async false
set_option linter.all false
set_option maxRecDepth 100000
set_option maxHeartbeats 4000000
/-! set(list of tuples of texts), sorted of it: as rules. -/
namespace Bf
open PySem PySem.Spec PyProof.Rows L2
open PySem.W (EachIs SortsAt list_sort_vals sortingHeap sortingHeap_old sortVals sortVals_data sortVals_length dataKind dataLe alike alikeAll)
theorem perm_of_map {α β : Type} {f : α → β} {m n : List β} (h : m.Perm n) : ∀ l : List α, n = l.map f → ∃ l' : List α, l'.Perm l ∧ m = l'.map f := by
  induction h with
  | nil => exact fun l e => ⟨l, List.Perm.refl _, e⟩
  | @cons x a b _ ih =>
    intro l e
    cases l with
    | nil => cases e
    | cons y l =>
      rw [List.map_cons] at e
      injection e with e1 e2
      obtain ⟨l', p, e3⟩ := ih l e2
      exact ⟨y :: l', p.cons y, by rw [List.map_cons, e1, e3]⟩
  | swap x y a =>
    intro l e
    match l, e with
    | u :: v :: l, e =>
      rw [List.map_cons, List.map_cons] at e
      injection e with e1 e2
      injection e2 with e2 e3
      exact ⟨v :: u :: l, List.Perm.swap u v l, by rw [List.map_cons, List.map_cons, e1, e2, e3]⟩
    | [], e => cases e
    | [u], e => cases e
  | trans _ _ ih1 ih2 =>
    intro l e
    obtain ⟨l2, p2, e2⟩ := ih2 l e
    obtain ⟨l1, p1, e1⟩ := ih1 l2 e2
    exact ⟨l1, p1.trans p2, e1⟩
theorem each_refs {α : Type} (f : α → Value) : ∀ l : List α, EachIs (fun v b => v = f b) (l.map f) l
  | [] => .nil
  | _ :: l => .cons rfl (each_refs f l)
theorem refs_each {α : Type} {f : α → Value} : ∀ {vs : List Value} {l : List α}, EachIs (fun v b => v = f b) vs l → vs = l.map f
  | _, _, .nil => rfl
  | _, _, .cons h t => by rw [List.map_cons, h, refs_each t]
section
variable {P : Program} {w : World} {κ : Type} [DecidableEq κ] {kd : PySem.KeyKind P w κ} {A : Around} {E : Value → Shared → Prop} {s : Shared} {a : Addr} {L : List (Addr × List κ)} {es : Array (Int × Value)} {ep : Nat} {t : SetTable}
/-- sorted(set), a set of tuples that read as alike data -/
theorem sorted_setG {Q : Value → Shared → Prop} (R : TSet kd s.heap a L es ep t) (hh : A.handled = none) (enc : Addr × List κ → PyData) (hre : ∀ p ∈ L, ∃ as, Reads s.heap (.ref p.1) (enc p) as) (hal : ∀ p q, alike (enc p) (enc q) = true) (ht : ∀ p, ∃ xs, enc p = .tuple xs) (hu : ∀ p, A.units + 2 + (enc p).depth < cLine)
    (hQ : ∀ s' p (out : Array Value) (c : Nat) (L' : List (Addr × List κ)), (∀ b o, s.heap.get? b = some o → s'.heap.get? b = some o) → s'.gens = s.gens → s'.os = s.os → s.heap.objs.size ≤ p → s'.heap.get? p = some (seqObj "list" out c) → out.toList = L'.map (fun q => Value.ref q.1) → L'.Perm L → Q (.ref p) s') :
    wpAny (model P w) A (call (.builtin "sorted") [.ref a]) Q E s := by
  obtain ⟨o, ho, hex, hd⟩ := R.ob
  have hsz := R.size
  have hfew := R.few
  refine Calls.call_function_entry kind_sorted plain_sorted entry_sorted (args_sorted1 _) ?_
  unfold Builtin.«sorted»
  refine wpAny_bind (m := checkCount "sorted" 1 1 _) (wpAny_pure ?_)
  refine wpAny_bind (collect_set (A := A.in1) hh ⟨o, ho, hex.1, hd⟩ R.fits (by unfold scanBound; omega) R.tab.ris R.led fun s1 vs k1 hz g1 o1 pm => ?_)
  have hes : es.toList.map (·.2) = L.map fun q => Value.ref q.1 := by
    rw [R.rows, List.map_map]
    rfl
  obtain ⟨L1, pL, rfl⟩ := perm_of_map pm L hes
  have hvl : (L1.map fun q => Value.ref q.1).length < 64 := by rw [List.length_map, pL.length_eq]; exact hfew
  refine wpAny_bind (wpAny_newList ?_ (by rw [sizeLine_eq]; omega))
  generalize hvs : (L1.map fun q => Value.ref q.1) = vs at *
  have hoL : (s1.heap.push (seqObj "list" vs.toArray 0)).get? s1.heap.objs.size = some (seqObj "list" vs.toArray 0) := Heap.get?_push_size _ rfl
  have old : ∀ b u, s.heap.get? b = some u → (sortingHeap (s1.heap.push (seqObj "list" vs.toArray 0)) s1.heap.objs.size vs).get? b = some u := fun b u e =>
    sortingHeap_old (Nat.ne_of_lt (Heap.lt_size (k1 b u e))) (Heap.get?_push_of_some _ (k1 b u e))
  have e1 : EachIs (fun v (b : Addr × List κ) => v = Value.ref b.1) vs L1 := by rw [← hvs]; exact each_refs _ L1
  have er : EachIs (fun v (b : Addr × List κ) => ∃ as, Reads (sortingHeap (s1.heap.push (seqObj "list" vs.toArray 0)) s1.heap.objs.size vs) v (enc b) as) vs L1 := by
    have z := PySem.W.each_mem e1
    refine z.mono fun v b ⟨e, m⟩ => ?_
    obtain ⟨as, r⟩ := hre b (pL.mem_iff.mp m)
    subst e
    exact ⟨as, PyProof.Rows.Reads.keeps old r⟩
  have al : PySem.W.AllAlike (L1.map enc) := by
    intro d hd d' hd'
    obtain ⟨p, _, rfl⟩ := List.mem_map.mp hd
    obtain ⟨q, _, rfl⟩ := List.mem_map.mp hd'
    exact hal p q
  have S : SortsAt P w A.in1.in1 { s1 with heap := sortingHeap (s1.heap.push (seqObj "list" vs.toArray 0)) s1.heap.objs.size vs } (dataKind (sortingHeap (s1.heap.push (seqObj "list" vs.toArray 0)) s1.heap.objs.size vs) (L1.map enc)) vs :=
    sorts_tups (PySem.W.each_map (R := fun v d => ∃ as, Reads (sortingHeap (s1.heap.push (seqObj "list" vs.toArray 0)) s1.heap.objs.size vs) v d as) enc er) al (fun d hd => by
      obtain ⟨p, _, rfl⟩ := List.mem_map.mp hd
      exact ht p) fun d hd => by
      obtain ⟨p, _, rfl⟩ := List.mem_map.mp hd
      exact hu p
  refine wpAny_bind (wpAny_holding (wpAny_call_entry slot_list_sort ⟨_, hoL, rfl⟩ entry_list_sort (list_sort_vals (s := { s1 with heap := s1.heap.push (seqObj "list" vs.toArray 0) }) hoL S (by rw [sizeLine_eq]; omega) ⟨_, rfl, ?_⟩) (args_list_sort _)))
  have out := refs_each (sortVals_data false e1 er al)
  obtain ⟨c, hc⟩ := sortedHeap_at (vs := vs) (out := (sortVals (dataKind (sortingHeap (s1.heap.push (seqObj "list" vs.toArray 0)) s1.heap.objs.size vs) (L1.map enc)) false vs vs).toArray) hoL
  refine wpAny_pure ⟨_, rfl, hQ _ s1.heap.objs.size _ c _ (fun b u e => ?_) g1 o1 hz hc (show _ = _ from out) ((List.mergeSort_perm _ _).trans pL)⟩
  have q := k1 b u e
  have hlt := Heap.lt_size q
  show (sortedHeap (s1.heap.push (seqObj "list" vs.toArray 0)) s1.heap.objs.size vs _).get? b = some u
  rw [sortedHeap_old (Nat.ne_of_lt hlt) (by rw [size_push']; exact Nat.lt_succ_of_lt hlt)]
  exact Heap.get?_push_of_some _ q
end
/-! ### as rules -/
def kRow (p : Addr × List Str) : Addr × List Key := (p.1, kT p.2)
/-- the set at a, without the tuples themselves -/
def TSet0 (P : Program) (w : World) (h : Heap) (a : Addr) (L : List (Addr × List Str)) : Prop := ∃ (es : Array (Int × Value)) (ep : Nat) (t : SetTable), (∃ o, h.get? a = some o ∧ o.ExactSet ∧ o.data = .set es ep t) ∧ es.toList = (L.map kRow).map (ent (mixKind P w)) ∧ TabOk t ((L.map kRow).map (hsh (mixKind P w))) ∧ ((L.map kRow).map Prod.snd).Nodup ∧
  (w.params.followText "set-order" = true ∨ t.led = true) ∧ (L.map kRow).length * 5 < t.mask * 3 ∧ (L.map kRow).length < 64
def TSetO (P : Program) (w : World) (a : Addr) (L : List (Addr × List Str)) : HO := .ext fun h => TSet0 P w h a L
section
variable {X : Cx}
theorem inv_key {pins : List (Addr × Obj)} {σ : St} {H : Hp} {s : Shared} {b : Addr} {ks : List Str} (I : Inv X pins σ H s) (h : SqT X.K H b (ks.map V.str)) : IsTupleKey (mixKind X.prog X.w) s.heap (kT ks) b := by
  obtain ⟨its, r, ⟨o, ho, hc, n, hd⟩, _⟩ := I.tuple h
  have r : Vals ((kT ks).map kV) its := by rw [List.map_map]; exact r
  exact ⟨o, its.toArray, n, ho, hc, hd, by simpa using items_are r⟩
theorem row_refs : ∀ {ks : List (Addr × List Str)} {us : List Value}, Vals (ks.map fun p => V.ref p.1) us → us = (ks.map kRow).map fun p => Value.ref p.1
  | [], _, .nil => rfl
  | p :: ks, _, .cons r t => by
    cases r
    rw [row_refs t]
    rfl
def rSetT (K : PySem.W.Frag) (P : Program) (w : World) : List V → Hp → VK → Prop := fun xs H Q => ∃ (l : Addr) (ks : List (Addr × List Str)), xs = [V.ref l] ∧ SqL K H l (ks.map fun p => V.ref p.1) ∧ (∀ p ∈ ks, SqT K H p.1 (p.2.map V.str)) ∧ ks.length < 64 ∧
  ∀ a L, H a = none → (∀ p ∈ L, p ∈ ks) → (∀ p ∈ ks, p.2 ∈ L.map Prod.snd) → Q (.ref a) (upd H a (TSetO P w a L))
theorem call_setT (hc : X.calm = true) (hu : X.A.units + 64 < cLine) : CallR X (.type "set") (rSetT X.K X.prog X.w) := by
  intro pins s σ H xs us Q I r h
  obtain ⟨l, ks, rfl, hl, hk, hf, q⟩ := h
  rw [Vals.ref1 r]
  obtain ⟨its, rv, pl, hz⟩ := I.list hl
  have hn : H s.heap.objs.size = none := I.hok.fresh (Nat.le_refl _)
  have hkey : ∀ p ∈ ks.map kRow, IsTupleKey (mixKind X.prog X.w) s.heap p.2 p.1 := fun p hp => by
    obtain ⟨q, hq, rfl⟩ := List.mem_map.mp hp
    exact inv_key I (hk q hq)
  refine call_setG (P := X.prog) (w := X.w) (kd := mixKind X.prog X.w) (ks.map kRow) (I.ok.hd hc) pl.isList (by simpa using row_refs rv) hkey (by rw [List.length_map]; exact hf) (by omega) fun h' tk L es ep t R g k => ?_
  -- the rows are texts' rows
  obtain ⟨L0, rfl, hL0⟩ : ∃ L0 : List (Addr × List Str), L = L0.map kRow ∧ ∀ p ∈ L0, p ∈ ks := by
    have hs : ∀ p ∈ L, p ∈ ks.map kRow := fun p hp => List.mem_of_mem_take (g.sub p hp)
    clear R g
    induction L with
    | nil => exact ⟨[], rfl, fun p hp => nomatch hp⟩
    | cons p L ih =>
      obtain ⟨L0, e, m⟩ := ih fun p hp => hs p (List.mem_cons_of_mem _ hp)
      obtain ⟨q, hq, e2⟩ := List.mem_map.mp (hs p List.mem_cons_self)
      refine ⟨q :: L0, by rw [List.map_cons, e, e2], fun z hz => ?_⟩
      rcases List.mem_cons.mp hz with rfl | hz
      · exact hq
      · exact m z hz
  refine ⟨.ref s.heap.objs.size, upd H s.heap.objs.size (TSetO X.prog X.w s.heap.objs.size L0), I.laid (t' := tk) k (Nat.le_refl _) ?_, rfl, q _ L0 hn hL0 fun p hp => ?_⟩
  · refine ⟨⟨es, ep, t, R.ob, R.rows, R.tab, R.nd, R.led, R.room, R.few⟩, R.ob.imp fun o h => h.1, fun h1 h2 ⟨es', ep', t', ⟨o', ho', r'⟩, q'⟩ k => ⟨es', ep', t', ⟨o', k o' ho', r'⟩, q'⟩⟩
  · have z := g.all (kRow p) (by rw [List.take_length]; exact List.mem_map.mpr ⟨p, hp, rfl⟩)
    rw [List.map_map] at z
    obtain ⟨q, hq, e⟩ := List.mem_map.mp z
    have e : kT q.2 = kT p.2 := e
    exact List.mem_map.mpr ⟨q, hq, kT_inj e⟩
def rSortSet (K : PySem.W.Frag) (P : Program) (w : World) : List V → Hp → VK → Prop := fun vs H Q => ∃ (a : Addr) (L : List (Addr × List Str)), vs = [V.ref a] ∧ H a = some (TSetO P w a L) ∧ (∀ p ∈ L, SqT K H p.1 (p.2.map V.str)) ∧
  ∀ (L' : List (Addr × List Str)) (p : Addr), L'.Perm L → (L'.map Prod.snd).Nodup → H p = none → Q (.ref p) (upd H p (.lst (L'.map fun q => V.ref q.1)))
def encRow (p : Addr × List Key) : PyData := .tuple (p.2.map fun k => match k with | .inl i => .int i | .inr x => .str x)
def encTx (p : Addr × List Key) : PyData := .tuple (p.2.map fun k => match k with | .inl _ => .str "" | .inr x => .str x)
theorem alike_strs : ∀ xs ys : List Key, alikeAll (xs.map fun k => match k with | .inl _ => PyData.str "" | .inr x => .str x) (ys.map fun k => match k with | .inl _ => PyData.str "" | .inr x => .str x) = true
  | [], _ => by simp [alikeAll]
  | _ :: _, [] => by simp [alikeAll]
  | x :: xs, y :: ys => by
    rw [List.map_cons, List.map_cons, alikeAll, alike_strs xs ys]
    cases x <;> cases y <;> simp [alike]
theorem depth_strs : ∀ xs : List Key, PyData.depthAll (xs.map fun k => match k with | .inl _ => PyData.str "" | .inr x => .str x) = 0
  | [] => by simp [PyData.depthAll]
  | x :: xs => by
    rw [List.map_cons, PyData.depthAll, depth_strs xs]
    cases x <;> simp [PyData.depth]
theorem row_vals : ∀ (ks : List (Addr × List Str)), Vals (ks.map fun p => V.ref p.1) ((ks.map kRow).map fun p => Value.ref p.1)
  | [] => .nil
  | p :: ks => .cons rfl (row_vals ks)
theorem call_sortSet (hc : X.calm = true) (hu : X.A.units + 64 < cLine) : CallR X (.builtin "sorted") (rSortSet X.K X.prog X.w) := by
  intro pins s σ H vs us Q I r h
  obtain ⟨a, L, rfl, ha, hk, q⟩ := h
  obtain ⟨es, ep, t, h1, h2, h3, h4, h5, h6, h7⟩ := (I.hok a _ ha).1
  have R : TSet (mixKind X.prog X.w) s.heap a (L.map kRow) es ep t := ⟨h1, h2, h3, h4, fun p hp => by
    obtain ⟨q, hq, rfl⟩ := List.mem_map.mp hp
    exact inv_key I (hk q hq), h5, h6, h7⟩
  rw [Vals.ref1 r]
  refine sorted_setG R (I.ok.hd hc) encTx (fun p hp => ?_) (fun p q => ?_) (fun p => ⟨_, rfl⟩) (fun p => ?_) fun s' p out c L' k g o hp hg hout pm => ?_
  · obtain ⟨q, hq, rfl⟩ := List.mem_map.mp hp
    have d : Dp X.K H (.ref q.1) (.tuple (q.2.map PyData.str)) := .tup (hk q hq) (strs_dpA _)
    have e : encTx (kRow q) = .tuple (q.2.map PyData.str) := by
      unfold encTx kRow
      rw [List.map_map]
      rfl
    rw [e]
    exact Dp.reads I _ _ _ d rfl
  · show alike (.tuple _) (.tuple _) = true
    simp only [alike]
    exact alike_strs _ _
  · show _ + 2 + (PyData.tuple _).depth < _
    simp only [PyData.depth, depth_strs]
    omega
  · obtain ⟨L0, rfl, hL0⟩ : ∃ L0 : List (Addr × List Str), L' = L0.map kRow ∧ L0.Perm L := by
      obtain ⟨l', p', e⟩ := perm_of_map (f := kRow) pm L rfl
      exact ⟨l', e, p'⟩
    have hlen : (L0.map fun q => V.ref q.1).length ≤ sizeLine := by
      rw [List.length_map, hL0.length_eq, sizeLine_eq]
      rw [List.length_map] at h7
      omega
    have hn : H p = none := I.hok.fresh hp
    have hv : Vals (L0.map fun q => V.ref q.1) out.toList := by rw [hout]; exact row_vals L0
    have J : Inv X pins σ (upd H p (.lst (L0.map fun q => V.ref q.1))) { s with heap := s'.heap, gens := s'.gens, drawn := s'.drawn, toks := s'.toks } :=
      I.call (ch := []) (Un.laid k hp hn) (I.hok.laid k hp ⟨hlen, out.toList, c, hv, hg⟩) (by rw [g]; exact I.bare) (fun _ z => nomatch z)
    have e : s' = { s with heap := s'.heap, gens := s'.gens, drawn := s'.drawn, toks := s'.toks } := by
      cases s'
      cases s
      cases o
      rfl
    rw [e]
    refine ⟨.ref p, _, J, rfl, q L0 p hL0 ?_ hn⟩
    have nd : ((L.map kRow).map Prod.snd).Nodup := h4
    rw [List.map_map] at nd
    have nd2 : (L.map Prod.snd).Nodup := by
      have z : L.map (Prod.snd ∘ kRow) = (L.map Prod.snd).map kT := by rw [List.map_map]; rfl
      rw [z] at nd
      exact nodup_of_map nd
    exact (hL0.map Prod.snd).nodup_iff.mpr nd2
end
end Bf
set_option Elab.async false
set_option linter.all false
set_option maxRecDepth 100000
set_option maxHeartbeats 4000000
/-! Own layer: a tuple times one. -/
namespace Bf
open PySem PySem.Spec PyProof.Rows L2
theorem tuple_mul1 (l : Addr) (items : Array Value) (n : Nat) (dd : Option Addr) (sl : Array (Option Value)) (u : Tok) :
    Meets (Builtin.«tuple.__mul__» ⟨[.ref l, .int 1 u], []⟩) (fun _ R s => s.heap.get? l = some { cls := .type "tuple", dict := dd, data := .seq items n, slots := sl } ∧
      R (.ok (.ret (Value.ref l))) s) :=
  .of_wp fun prog w A R s h => by
    obtain ⟨hp, g, d, tk, os⟩ := s
    obtain ⟨hl, h⟩ := h
    have f1 := AutoSeq1.idx_int
    wp_walk using wpAny_loadPart' hl
    exact ⟨_, rfl, h⟩
/-- a tuple times one: itself -/
def rRepT1 (K : PySem.W.Frag) : R2 := fun x y H Q => ∃ l xs, x = .ref l ∧ y = .int 1 ∧ SqT K H l xs ∧ Q x H
theorem op_repT1 {X : Cx} : OpR X (binaryOp .Mult) (rRepT1 X.K) := by
  intro pins s σ H x y v u Q I rx ry h
  obtain ⟨l, xs, rfl, rfl, hT, q⟩ := h
  cases rx
  obtain ⟨t, rfl⟩ := ry
  obtain ⟨its, r, ⟨⟨cls, dd, data, sl⟩, ho, hc, n, hd⟩, hs⟩ := I.tuple hT
  simp only at hc hd
  subst hc hd
  exact wpAny_binaryOp_repeat_ref (T := "tuple") (U := "int") (by decide) ⟨_, ho, rfl⟩ (fun s' => typeIs_int s' 1 t) noFill_tuple_mul F.fills_int_mul F.slot_int_rmul repeat_tuple F.slot_int_index.lookup
    (call_meets F.slot_int_rmul (typeIs_int s 1 t) F.entry_int_rmul (F.args_int_rmul_2 _ _) (int_rmul_tuple 1 t l its.toArray n dd sl)
      ⟨ho, rfl, ⟨_, ho, rfl⟩, call_meets F.slot_tuple_mul ⟨_, ho, rfl⟩ F.entry_tuple_mul (F.args_tuple_mul_2 _ _) (tuple_mul1 l its.toArray n dd sl t) ⟨ho, ⟨.ref l, H, I, rfl, q⟩⟩⟩)
def rRepA (K : PySem.W.Frag) : R2 := fun x y H Q => rRepT K x y H Q ∨ rRepT1 K x y H Q
theorem op_repA {X : Cx} : OpR X (binaryOp .Mult) (rRepA X.K) := op_repT.or op_repT1
end Bf
set_option Elab.async false
set_option linter.all false
set_option maxRecDepth 100000
set_option maxHeartbeats 2000000
/-! A call of each def, by its promise. Printed by gencall.py from Spec.lean. -/
namespace Bf
open PySem L2
section
variable {K : PySem.W.Frag} {C : Addr}
theorem c_rates {σ : St} {G : Hp} {tt : TA} (a : PlanD) (ha : EvA tt σ G (((fun pl => [Pl K C pl]) : PlanD → List (V → Hp → Prop)) a)) (h : ((fun _ => True) : PlanD → Prop) a) : Ev (tCall (sp_rates K C) [] E0 tt) σ G (((fun pl => D K (eRates pl.rates)) : PlanD → V → Hp → Prop) a) := ev_callS (pre := ((fun pl => [Pl K C pl]) : PlanD → List (V → Hp → Prop))) (ok := ((fun _ => True) : PlanD → Prop)) (post := ((fun pl => D K (eRates pl.rates)) : PlanD → V → Hp → Prop)) a ha rfl h
theorem c_above {σ : St} {G : Hp} {tt : TA} (a : PlanD) (ha : EvA tt σ G (((fun pl => [Pl K C pl]) : PlanD → List (V → Hp → Prop)) a)) (h : ((fun _ => True) : PlanD → Prop) a) : Ev (tCall (sp_above K C) [] E0 tt) σ G (((fun pl => D K (eOpts pl.above)) : PlanD → V → Hp → Prop) a) := ev_callS (pre := ((fun pl => [Pl K C pl]) : PlanD → List (V → Hp → Prop))) (ok := ((fun _ => True) : PlanD → Prop)) (post := ((fun pl => D K (eOpts pl.above)) : PlanD → V → Hp → Prop)) a ha rfl h
theorem c_points {σ : St} {G : Hp} {tt : TA} (a : PlanD) (ha : EvA tt σ G (((fun pl => [Pl K C pl]) : PlanD → List (V → Hp → Prop)) a)) (h : ((fun _ => True) : PlanD → Prop) a) : Ev (tCall (sp_points K C) [] E0 tt) σ G (((fun pl => D K (ePoints pl.points)) : PlanD → V → Hp → Prop) a) := ev_callS (pre := ((fun pl => [Pl K C pl]) : PlanD → List (V → Hp → Prop))) (ok := ((fun _ => True) : PlanD → Prop)) (post := ((fun pl => D K (ePoints pl.points)) : PlanD → V → Hp → Prop)) a ha rfl h
theorem c_rule {σ : St} {G : Hp} {tt : TA} (a : PlanD) (ha : EvA tt σ G (((fun pl => [Pl K C pl]) : PlanD → List (V → Hp → Prop)) a)) (h : ((fun _ => True) : PlanD → Prop) a) : Ev (tCall (sp_rule K C) [] E0 tt) σ G (((fun pl => D K (.str pl.rule)) : PlanD → V → Hp → Prop) a) := ev_callS (pre := ((fun pl => [Pl K C pl]) : PlanD → List (V → Hp → Prop))) (ok := ((fun _ => True) : PlanD → Prop)) (post := ((fun pl => D K (.str pl.rule)) : PlanD → V → Hp → Prop)) a ha rfl h
theorem c_names {σ : St} {G : Hp} {tt : TA} (a : PlanD) (ha : EvA tt σ G (((fun pl => [Pl K C pl]) : PlanD → List (V → Hp → Prop)) a)) (h : ((fun _ => True) : PlanD → Prop) a) : Ev (tCall (sp_names K C) [] E0 tt) σ G (((fun pl => D K (eNames pl.names)) : PlanD → V → Hp → Prop) a) := ev_callS (pre := ((fun pl => [Pl K C pl]) : PlanD → List (V → Hp → Prop))) (ok := ((fun _ => True) : PlanD → Prop)) (post := ((fun pl => D K (eNames pl.names)) : PlanD → V → Hp → Prop)) a ha rfl h
theorem c_len {σ : St} {G : Hp} {tt : TA} (a : PlanD) (ha : EvA tt σ G (((fun pl => [Pl K C pl]) : PlanD → List (V → Hp → Prop)) a)) (h : ((fun _ => True) : PlanD → Prop) a) : Ev (tCall (sp_len K C) [] E0 tt) σ G (((fun pl => D K (.int pl.rates.length)) : PlanD → V → Hp → Prop) a) := ev_callS (pre := ((fun pl => [Pl K C pl]) : PlanD → List (V → Hp → Prop))) (ok := ((fun _ => True) : PlanD → Prop)) (post := ((fun pl => D K (.int pl.rates.length)) : PlanD → V → Hp → Prop)) a ha rfl h
theorem c_is_number {σ : St} {G : Hp} {tt : TA} (a : Int × Int × Int) (ha : EvA tt σ G (((fun (a : Int × Int × Int) => [D K (.int a.1), D K (.int a.2.1), D K (.int a.2.2)]) : Int × Int × Int → List (V → Hp → Prop)) a)) (h : ((fun _ => True) : Int × Int × Int → Prop) a) : Ev (tCall (sp_is_number K C) [] E0 tt) σ G (((fun a => D K (.bool (decide (a.2.1 ≤ a.1) && decide (a.1 ≤ a.2.2)))) : Int × Int × Int → V → Hp → Prop) a) := ev_callS (pre := ((fun (a : Int × Int × Int) => [D K (.int a.1), D K (.int a.2.1), D K (.int a.2.2)]) : Int × Int × Int → List (V → Hp → Prop))) (ok := ((fun _ => True) : Int × Int × Int → Prop)) (post := ((fun a => D K (.bool (decide (a.2.1 ≤ a.1) && decide (a.1 ≤ a.2.2)))) : Int × Int × Int → V → Hp → Prop)) a ha rfl h
theorem c_is_word {σ : St} {G : Hp} {tt : TA} (a : Str) (ha : EvA tt σ G (((fun (s : Str) => [D K (.str s)]) : Str → List (V → Hp → Prop)) a)) (h : (WordOk : Str → Prop) a) : Ev (tCall (sp_is_word K C) [] E0 tt) σ G (((fun _ => D K dTT) : Str → V → Hp → Prop) a) := ev_callS (pre := ((fun (s : Str) => [D K (.str s)]) : Str → List (V → Hp → Prop))) (ok := (WordOk : Str → Prop)) (post := ((fun _ => D K dTT) : Str → V → Hp → Prop)) a ha rfl h
theorem c_are_rates {σ : St} {G : Hp} {tt : TA} (a : PlanD) (ha : EvA tt σ G (((fun (pl : PlanD) => [D K (eRates pl.rates)]) : PlanD → List (V → Hp → Prop)) a)) (h : (PlOk : PlanD → Prop) a) : Ev (tCall (sp_are_rates K C) [] E0 tt) σ G (((fun _ => D K dTT) : PlanD → V → Hp → Prop) a) := ev_callS (pre := ((fun (pl : PlanD) => [D K (eRates pl.rates)]) : PlanD → List (V → Hp → Prop))) (ok := (PlOk : PlanD → Prop)) (post := ((fun _ => D K dTT) : PlanD → V → Hp → Prop)) a ha rfl h
theorem c_are_above {σ : St} {G : Hp} {tt : TA} (a : PlanD) (ha : EvA tt σ G (((fun (pl : PlanD) => [D K (eOpts pl.above), D K (.int pl.rates.length)]) : PlanD → List (V → Hp → Prop)) a)) (h : (PlOk : PlanD → Prop) a) : Ev (tCall (sp_are_above K C) [] E0 tt) σ G (((fun _ => D K dTT) : PlanD → V → Hp → Prop) a) := ev_callS (pre := ((fun (pl : PlanD) => [D K (eOpts pl.above), D K (.int pl.rates.length)]) : PlanD → List (V → Hp → Prop))) (ok := (PlOk : PlanD → Prop)) (post := ((fun _ => D K dTT) : PlanD → V → Hp → Prop)) a ha rfl h
theorem c_is_point {σ : St} {G : Hp} {tt : TA} (a : Str × Str × Int) (ha : EvA tt σ G (((fun (p : Str × Str × Int) => [D K (ePoint p)]) : Str × Str × Int → List (V → Hp → Prop)) a)) (h : ((fun p => WordOk p.1 ∧ (p.2.1 = "lamp" ∨ p.2.1 = "plug") ∧ 0 ≤ p.2.2 ∧ p.2.2 ≤ 9) : Str × Str × Int → Prop) a) : Ev (tCall (sp_is_point K C) [] E0 tt) σ G (((fun _ => D K dTT) : Str × Str × Int → V → Hp → Prop) a) := ev_callS (pre := ((fun (p : Str × Str × Int) => [D K (ePoint p)]) : Str × Str × Int → List (V → Hp → Prop))) (ok := ((fun p => WordOk p.1 ∧ (p.2.1 = "lamp" ∨ p.2.1 = "plug") ∧ 0 ≤ p.2.2 ∧ p.2.2 ≤ 9) : Str × Str × Int → Prop)) (post := ((fun _ => D K dTT) : Str × Str × Int → V → Hp → Prop)) a ha rfl h
theorem c_are_points {σ : St} {G : Hp} {tt : TA} (a : PlanD) (ha : EvA tt σ G (((fun (pl : PlanD) => [D K (ePoints pl.points)]) : PlanD → List (V → Hp → Prop)) a)) (h : (PlOk : PlanD → Prop) a) : Ev (tCall (sp_are_points K C) [] E0 tt) σ G (((fun _ => D K dTT) : PlanD → V → Hp → Prop) a) := ev_callS (pre := ((fun (pl : PlanD) => [D K (ePoints pl.points)]) : PlanD → List (V → Hp → Prop))) (ok := (PlOk : PlanD → Prop)) (post := ((fun _ => D K dTT) : PlanD → V → Hp → Prop)) a ha rfl h
theorem c_does_follow {σ : St} {G : Hp} {tt : TA} (a : PlanD × List (Option Nat)) (ha : EvA tt σ G (((fun (a : PlanD × List (Option Nat)) => [Pl K C a.1, D K (eOpts a.2)]) : PlanD × List (Option Nat) → List (V → Hp → Prop)) a)) (h : ((fun a => PlOk a.1 ∧ WirOk a.1 a.2 ∧ Follows a.1 a.2) : PlanD × List (Option Nat) → Prop) a) : Ev (tCall (sp_does_follow K C) [] E0 tt) σ G (((fun _ => D K dTT) : PlanD × List (Option Nat) → V → Hp → Prop) a) := ev_callS (pre := ((fun (a : PlanD × List (Option Nat)) => [Pl K C a.1, D K (eOpts a.2)]) : PlanD × List (Option Nat) → List (V → Hp → Prop))) (ok := ((fun a => PlOk a.1 ∧ WirOk a.1 a.2 ∧ Follows a.1 a.2) : PlanD × List (Option Nat) → Prop)) (post := ((fun _ => D K dTT) : PlanD × List (Option Nat) → V → Hp → Prop)) a ha rfl h
theorem c_is_wiring {σ : St} {G : Hp} {tt : TA} (a : PlanD × List (Option Nat)) (ha : EvA tt σ G (((fun (a : PlanD × List (Option Nat)) => [Pl K C a.1, D K (eOpts a.2)]) : PlanD × List (Option Nat) → List (V → Hp → Prop)) a)) (h : ((fun a => PlOk a.1 ∧ WirOk a.1 a.2 ∧ Follows a.1 a.2) : PlanD × List (Option Nat) → Prop) a) : Ev (tCall (sp_is_wiring K C) [] E0 tt) σ G (((fun _ => D K dTT) : PlanD × List (Option Nat) → V → Hp → Prop) a) := ev_callS (pre := ((fun (a : PlanD × List (Option Nat)) => [Pl K C a.1, D K (eOpts a.2)]) : PlanD × List (Option Nat) → List (V → Hp → Prop))) (ok := ((fun a => PlOk a.1 ∧ WirOk a.1 a.2 ∧ Follows a.1 a.2) : PlanD × List (Option Nat) → Prop)) (post := ((fun _ => D K dTT) : PlanD × List (Option Nat) → V → Hp → Prop)) a ha rfl h
theorem c_check_wiring {σ : St} {G : Hp} {tt : TA} (a : PlanD × List (Option Nat)) (ha : EvA tt σ G (((fun (a : PlanD × List (Option Nat)) => [Pl K C a.1, D K (eOpts a.2)]) : PlanD × List (Option Nat) → List (V → Hp → Prop)) a)) (h : ((fun a => PlOk a.1 ∧ WirOk a.1 a.2 ∧ Follows a.1 a.2) : PlanD × List (Option Nat) → Prop) a) : Ev (tCall (sp_check_wiring K C) [] E0 tt) σ G (((fun _ => D K .none) : PlanD × List (Option Nat) → V → Hp → Prop) a) := ev_callS (pre := ((fun (a : PlanD × List (Option Nat)) => [Pl K C a.1, D K (eOpts a.2)]) : PlanD × List (Option Nat) → List (V → Hp → Prop))) (ok := ((fun a => PlOk a.1 ∧ WirOk a.1 a.2 ∧ Follows a.1 a.2) : PlanD × List (Option Nat) → Prop)) (post := ((fun _ => D K .none) : PlanD × List (Option Nat) → V → Hp → Prop)) a ha rfl h
theorem c_check_breaker {σ : St} {G : Hp} {tt : TA} (a : PlanD × Nat) (ha : EvA tt σ G (((fun (a : PlanD × Nat) => [Pl K C a.1, D K (.int a.2)]) : PlanD × Nat → List (V → Hp → Prop)) a)) (h : ((fun a => PlOk a.1 ∧ a.2 < a.1.rates.length) : PlanD × Nat → Prop) a) : Ev (tCall (sp_check_breaker K C) [] E0 tt) σ G (((fun _ => D K .none) : PlanD × Nat → V → Hp → Prop) a) := ev_callS (pre := ((fun (a : PlanD × Nat) => [Pl K C a.1, D K (.int a.2)]) : PlanD × Nat → List (V → Hp → Prop))) (ok := ((fun a => PlOk a.1 ∧ a.2 < a.1.rates.length) : PlanD × Nat → Prop)) (post := ((fun _ => D K .none) : PlanD × Nat → V → Hp → Prop)) a ha rfl h
theorem c_all_on {σ : St} {G : Hp} {tt : TA} (a : PlanD) (ha : EvA tt σ G (((fun pl => [Pl K C pl]) : PlanD → List (V → Hp → Prop)) a)) (h : (PlOk : PlanD → Prop) a) : Ev (tCall (sp_all_on K C) [] E0 tt) σ G (((fun pl => D K (eBools (allOn pl))) : PlanD → V → Hp → Prop) a) := ev_callS (pre := ((fun pl => [Pl K C pl]) : PlanD → List (V → Hp → Prop))) (ok := (PlOk : PlanD → Prop)) (post := ((fun pl => D K (eBools (allOn pl))) : PlanD → V → Hp → Prop)) a ha rfl h
theorem c_line_up {σ : St} {G : Hp} {tt : TA} (a : PlanD × Nat) (ha : EvA tt σ G (((fun (a : PlanD × Nat) => [Pl K C a.1, D K (.int a.2)]) : PlanD × Nat → List (V → Hp → Prop)) a)) (h : ((fun a => PlOk a.1 ∧ a.2 < a.1.rates.length) : PlanD × Nat → Prop) a) : Ev (tCall (sp_line_up K C) [] E0 tt) σ G (((fun a => D K (.tuple (eNats (lineUp a.1.above a.2)))) : PlanD × Nat → V → Hp → Prop) a) := ev_callS (pre := ((fun (a : PlanD × Nat) => [Pl K C a.1, D K (.int a.2)]) : PlanD × Nat → List (V → Hp → Prop))) (ok := ((fun a => PlOk a.1 ∧ a.2 < a.1.rates.length) : PlanD × Nat → Prop)) (post := ((fun a => D K (.tuple (eNats (lineUp a.1.above a.2)))) : PlanD × Nat → V → Hp → Prop)) a ha rfl h
theorem c_has_power {σ : St} {G : Hp} {tt : TA} (a : PlanD × List Bool × Option Nat) (ha : EvA tt σ G (((fun (a : PlanD × List Bool × Option Nat) => [Pl K C a.1, D K (eBools a.2.1), D K (eOpt a.2.2)]) : PlanD × List Bool × Option Nat → List (V → Hp → Prop)) a)) (h : ((fun a => PlOk a.1 ∧ a.2.1.length = a.1.rates.length ∧ ∀ b, a.2.2 = some b → b < a.1.rates.length) : PlanD × List Bool × Option Nat → Prop) a) : Ev (tCall (sp_has_power K C) [] E0 tt) σ G (((fun a => D K (.bool (hasPw a.1.above a.2.1 a.2.2))) : PlanD × List Bool × Option Nat → V → Hp → Prop) a) := ev_callS (pre := ((fun (a : PlanD × List Bool × Option Nat) => [Pl K C a.1, D K (eBools a.2.1), D K (eOpt a.2.2)]) : PlanD × List Bool × Option Nat → List (V → Hp → Prop))) (ok := ((fun a => PlOk a.1 ∧ a.2.1.length = a.1.rates.length ∧ ∀ b, a.2.2 = some b → b < a.1.rates.length) : PlanD × List Bool × Option Nat → Prop)) (post := ((fun a => D K (.bool (hasPw a.1.above a.2.1 a.2.2))) : PlanD × List Bool × Option Nat → V → Hp → Prop)) a ha rfl h
theorem c_wrong_load {σ : St} {G : Hp} {tt : TA} (a : PlanD × Loads) (ha : EvA tt σ G (((fun (a : PlanD × Loads) => [Pl K C a.1, Dk K (eLoads a.2)]) : PlanD × Loads → List (V → Hp → Prop)) a)) (h : ((fun a => PlOk a.1 ∧ LdOk a.1 a.2) : PlanD × Loads → Prop) a) : Ev (tCall (sp_wrong_load K C) [] E0 tt) σ G (((fun _ => D K .none) : PlanD × Loads → V → Hp → Prop) a) := ev_callS (pre := ((fun (a : PlanD × Loads) => [Pl K C a.1, Dk K (eLoads a.2)]) : PlanD × Loads → List (V → Hp → Prop))) (ok := ((fun a => PlOk a.1 ∧ LdOk a.1 a.2) : PlanD × Loads → Prop)) (post := ((fun _ => D K .none) : PlanD × Loads → V → Hp → Prop)) a ha rfl h
theorem c_check_loads {σ : St} {G : Hp} {tt : TA} (a : PlanD × Loads) (ha : EvA tt σ G (((fun (a : PlanD × Loads) => [Pl K C a.1, Dk K (eLoads a.2)]) : PlanD × Loads → List (V → Hp → Prop)) a)) (h : ((fun a => PlOk a.1 ∧ LdOk a.1 a.2) : PlanD × Loads → Prop) a) : Ev (tCall (sp_check_loads K C) [] E0 tt) σ G (((fun _ => D K .none) : PlanD × Loads → V → Hp → Prop) a) := ev_callS (pre := ((fun (a : PlanD × Loads) => [Pl K C a.1, Dk K (eLoads a.2)]) : PlanD × Loads → List (V → Hp → Prop))) (ok := ((fun a => PlOk a.1 ∧ LdOk a.1 a.2) : PlanD × Loads → Prop)) (post := ((fun _ => D K .none) : PlanD × Loads → V → Hp → Prop)) a ha rfl h
theorem c_currents_in {σ : St} {G : Hp} {tt : TA} (a : Q4) (ha : EvA tt σ G (((fun (a : Q4) => [Pl K C a.1, D K (eOpts a.2.1), D K (eBools a.2.2.1), Dk K (eLoads a.2.2.2)]) : Q4 → List (V → Hp → Prop)) a)) (h : (q4ok : Q4 → Prop) a) : Ev (tCall (sp_currents_in K C) [] E0 tt) σ G (((fun a => D K (.tuple ((curs a.1 a.2.1 a.2.2.1 a.2.2.2).map PyData.int))) : Q4 → V → Hp → Prop) a) := ev_callS (pre := ((fun (a : Q4) => [Pl K C a.1, D K (eOpts a.2.1), D K (eBools a.2.2.1), Dk K (eLoads a.2.2.2)]) : Q4 → List (V → Hp → Prop))) (ok := (q4ok : Q4 → Prop)) (post := ((fun a => D K (.tuple ((curs a.1 a.2.1 a.2.2.1 a.2.2.2).map PyData.int))) : Q4 → V → Hp → Prop)) a ha rfl h
theorem c_trips_in {σ : St} {G : Hp} {tt : TA} (a : Q4) (ha : EvA tt σ G (((fun (a : Q4) => [Pl K C a.1, D K (eOpts a.2.1), D K (eBools a.2.2.1), Dk K (eLoads a.2.2.2)]) : Q4 → List (V → Hp → Prop)) a)) (h : ((fun a => q4ok a ∧ ∀ p ∈ a.2.2.2, 0 ≤ p.2) : Q4 → Prop) a) : Ev (tCall (sp_trips_in K C) [] E0 tt) σ G (((fun a => D K (.tuple [eBools (trips a.1 a.2.1 a.2.2.1 a.2.2.2).1, .tuple (eNats (trips a.1 a.2.1 a.2.2.1 a.2.2.2).2)])) : Q4 → V → Hp → Prop) a) := ev_callS (pre := ((fun (a : Q4) => [Pl K C a.1, D K (eOpts a.2.1), D K (eBools a.2.2.1), Dk K (eLoads a.2.2.2)]) : Q4 → List (V → Hp → Prop))) (ok := ((fun a => q4ok a ∧ ∀ p ∈ a.2.2.2, 0 ≤ p.2) : Q4 → Prop)) (post := ((fun a => D K (.tuple [eBools (trips a.1 a.2.1 a.2.2.1 a.2.2.2).1, .tuple (eNats (trips a.1 a.2.1 a.2.2.1 a.2.2.2).2)])) : Q4 → V → Hp → Prop)) a ha rfl h
theorem c_does_run {σ : St} {G : Hp} {tt : TA} (a : PlanD × List (Option Nat) × Loads) (ha : EvA tt σ G (((fun (a : PlanD × List (Option Nat) × Loads) => [Pl K C a.1, D K (eOpts a.2.1), Dk K (eLoads a.2.2)]) : PlanD × List (Option Nat) × Loads → List (V → Hp → Prop)) a)) (h : ((fun a => PlOk a.1 ∧ WirOk a.1 a.2.1 ∧ ∀ p ∈ a.2.2, 0 ≤ p.2) : PlanD × List (Option Nat) × Loads → Prop) a) : Ev (tCall (sp_does_run K C) [] E0 tt) σ G (((fun a => D K (.bool (trips a.1 a.2.1 (allOn a.1) a.2.2).2.isEmpty)) : PlanD × List (Option Nat) × Loads → V → Hp → Prop) a) := ev_callS (pre := ((fun (a : PlanD × List (Option Nat) × Loads) => [Pl K C a.1, D K (eOpts a.2.1), Dk K (eLoads a.2.2)]) : PlanD × List (Option Nat) × Loads → List (V → Hp → Prop))) (ok := ((fun a => PlOk a.1 ∧ WirOk a.1 a.2.1 ∧ ∀ p ∈ a.2.2, 0 ≤ p.2) : PlanD × List (Option Nat) × Loads → Prop)) (post := ((fun a => D K (.bool (trips a.1 a.2.1 (allOn a.1) a.2.2).2.isEmpty)) : PlanD × List (Option Nat) × Loads → V → Hp → Prop)) a ha rfl h
theorem c_is_timer {σ : St} {G : Hp} {tt : TA} (a : Tm) (ha : EvA tt σ G (((fun (t : Tm) => [D K (eTm t)]) : Tm → List (V → Hp → Prop)) a)) (h : (TmOk : Tm → Prop) a) : Ev (tCall (sp_is_timer K C) [] E0 tt) σ G (((fun _ => D K dTT) : Tm → V → Hp → Prop) a) := ev_callS (pre := ((fun (t : Tm) => [D K (eTm t)]) : Tm → List (V → Hp → Prop))) (ok := (TmOk : Tm → Prop)) (post := ((fun _ => D K dTT) : Tm → V → Hp → Prop)) a ha rfl h
theorem c_check_timed {σ : St} {G : Hp} {tt : TA} (a : Q0) (ha : EvA tt σ G (((fun (a : Q0) => [Pl K C a.1, D K (eOpts a.2.1), Dk K (eLoads a.2.2.1), Dk K (eTimers a.2.2.2)]) : Q0 → List (V → Hp → Prop)) a)) (h : (q0ok : Q0 → Prop) a) : Ev (tCall (sp_check_timed K C) [] E0 tt) σ G (((fun _ => D K .none) : Q0 → V → Hp → Prop) a) := ev_callS (pre := ((fun (a : Q0) => [Pl K C a.1, D K (eOpts a.2.1), Dk K (eLoads a.2.2.1), Dk K (eTimers a.2.2.2)]) : Q0 → List (V → Hp → Prop))) (ok := (q0ok : Q0 → Prop)) (post := ((fun _ => D K .none) : Q0 → V → Hp → Prop)) a ha rfl h
theorem c_check_count {σ : St} {G : Hp} {tt : TA} (a : Nat × Nat) (ha : EvA tt σ G (((fun (a : Nat × Nat) => [D K (.int a.1), D K (.int a.2)]) : Nat × Nat → List (V → Hp → Prop)) a)) (h : ((fun a => a.1 ≤ a.2) : Nat × Nat → Prop) a) : Ev (tCall (sp_check_count K C) [] E0 tt) σ G (((fun _ => D K .none) : Nat × Nat → V → Hp → Prop) a) := ev_callS (pre := ((fun (a : Nat × Nat) => [D K (.int a.1), D K (.int a.2)]) : Nat × Nat → List (V → Hp → Prop))) (ok := ((fun a => a.1 ≤ a.2) : Nat × Nat → Prop)) (post := ((fun _ => D K .none) : Nat × Nat → V → Hp → Prop)) a ha rfl h
theorem c_length_of {σ : St} {G : Hp} {tt : TA} (a : Timers) (ha : EvA tt σ G (((fun (ts : Timers) => [Dx K (eTimers ts)]) : Timers → List (V → Hp → Prop)) a)) (h : ((fun ts => ts.length ≤ 5 ∧ ∀ p ∈ ts, TmOk p.2) : Timers → Prop) a) : Ev (tCall (sp_length_of K C) [] E0 tt) σ G (((fun ts => D K (.int (lenOf ts))) : Timers → V → Hp → Prop) a) := ev_callS (pre := ((fun (ts : Timers) => [Dx K (eTimers ts)]) : Timers → List (V → Hp → Prop))) (ok := ((fun ts => ts.length ≤ 5 ∧ ∀ p ∈ ts, TmOk p.2) : Timers → Prop)) (post := ((fun ts => D K (.int (lenOf ts))) : Timers → V → Hp → Prop)) a ha rfl h
theorem c_names_on {σ : St} {G : Hp} {tt : TA} (a : Loads × Timers × Nat) (ha : EvA tt σ G (((fun (a : Loads × Timers × Nat) => [Dk K (eLoads a.1), Dk K (eTimers a.2.1), D K (.int a.2.2)]) : Loads × Timers × Nat → List (V → Hp → Prop)) a)) (h : ((fun a => Asc (a.1.map Prod.fst) ∧ a.1.length ≤ 5 ∧ ∀ p ∈ a.2.1, TmOk p.2) : Loads × Timers × Nat → Prop) a) : Ev (tCall (sp_names_on K C) [] E0 tt) σ G (((fun a => Tx K ((namesOn a.1 a.2.1 a.2.2).map PyData.str)) : Loads × Timers × Nat → V → Hp → Prop) a) := ev_callS (pre := ((fun (a : Loads × Timers × Nat) => [Dk K (eLoads a.1), Dk K (eTimers a.2.1), D K (.int a.2.2)]) : Loads × Timers × Nat → List (V → Hp → Prop))) (ok := ((fun a => Asc (a.1.map Prod.fst) ∧ a.1.length ≤ 5 ∧ ∀ p ∈ a.2.1, TmOk p.2) : Loads × Timers × Nat → Prop)) (post := ((fun a => Tx K ((namesOn a.1 a.2.1 a.2.2).map PyData.str)) : Loads × Timers × Nat → V → Hp → Prop)) a ha rfl h
theorem c_loads_at {σ : St} {G : Hp} {tt : TA} (a : Loads × Timers × List Str × Nat) (ha : EvA tt σ G (((fun (a : Loads × Timers × List Str × Nat) => [Dk K (eLoads a.1), Dk K (eTimers a.2.1), D K (eNames a.2.2.1), D K (.int a.2.2.2)]) : Loads × Timers × List Str × Nat → List (V → Hp → Prop)) a)) (h : ((fun a => a.2.2.1.Nodup ∧ a.2.2.1.length ≤ 5 ∧ ∀ n ∈ a.2.2.1, n ∈ a.1.map Prod.fst) : Loads × Timers × List Str × Nat → Prop) a) : Ev (tCall (sp_loads_at K C) [] E0 tt) σ G (((fun a => Dx K (eLoads (loadsAt a.1 a.2.1 a.2.2.1 a.2.2.2))) : Loads × Timers × List Str × Nat → V → Hp → Prop) a) := ev_callS (pre := ((fun (a : Loads × Timers × List Str × Nat) => [Dk K (eLoads a.1), Dk K (eTimers a.2.1), D K (eNames a.2.2.1), D K (.int a.2.2.2)]) : Loads × Timers × List Str × Nat → List (V → Hp → Prop))) (ok := ((fun a => a.2.2.1.Nodup ∧ a.2.2.1.length ≤ 5 ∧ ∀ n ∈ a.2.2.1, n ∈ a.1.map Prod.fst) : Loads × Timers × List Str × Nat → Prop)) (post := ((fun a => Dx K (eLoads (loadsAt a.1 a.2.1 a.2.2.1 a.2.2.2))) : Loads × Timers × List Str × Nat → V → Hp → Prop)) a ha rfl h
theorem c_trips_of {σ : St} {G : Hp} {tt : TA} (a : Q5) (ha : EvA tt σ G (((fun (a : Q5) => [Pl K C a.1, D K (eOpts a.2.1), Dk K (eLoads a.2.2.1), Dk K (eTimers a.2.2.2.1), D K (eNames a.2.2.2.2)]) : Q5 → List (V → Hp → Prop)) a)) (h : ((fun a => PlOk a.1 ∧ WirOk a.1 a.2.1 ∧ LdOk a.1 a.2.2.1 ∧ a.2.2.2.2.Nodup ∧ a.2.2.2.2.length ≤ 5 ∧ ∀ n ∈ a.2.2.2.2, n ∈ a.2.2.1.map Prod.fst) : Q5 → Prop) a) : Ev (tCall (sp_trips_of K C) [] E0 tt) σ G (((fun a => D K (.list (ePairs (tripsOf a.1 a.2.1 (loadsAt a.2.2.1 a.2.2.2.1 a.2.2.2.2))))) : Q5 → V → Hp → Prop) a) := ev_callS (pre := ((fun (a : Q5) => [Pl K C a.1, D K (eOpts a.2.1), Dk K (eLoads a.2.2.1), Dk K (eTimers a.2.2.2.1), D K (eNames a.2.2.2.2)]) : Q5 → List (V → Hp → Prop))) (ok := ((fun a => PlOk a.1 ∧ WirOk a.1 a.2.1 ∧ LdOk a.1 a.2.2.1 ∧ a.2.2.2.2.Nodup ∧ a.2.2.2.2.length ≤ 5 ∧ ∀ n ∈ a.2.2.2.2, n ∈ a.2.2.1.map Prod.fst) : Q5 → Prop)) (post := ((fun a => D K (.list (ePairs (tripsOf a.1 a.2.1 (loadsAt a.2.2.1 a.2.2.2.1 a.2.2.2.2))))) : Q5 → V → Hp → Prop)) a ha rfl h
theorem c_day {σ : St} {G : Hp} {tt : TA} (a : Q0 × Nat) (ha : EvA tt σ G (((fun (a : Q0 × Nat) => [Pl K C a.1.1, D K (eOpts a.1.2.1), Dk K (eLoads a.1.2.2.1), Dk K (eTimers a.1.2.2.2), D K (.int a.2)]) : Q0 × Nat → List (V → Hp → Prop)) a)) (h : ((fun a => q0ok a.1 ∧ a.2 ≤ 10 ^ 18) : Q0 × Nat → Prop) a) : Ev (tCall (sp_day K C) [] E0 tt) σ G (((fun a => D K (.list (ePairs (dayP a.1.1 a.1.2.1 a.1.2.2.1 a.1.2.2.2 a.2)))) : Q0 × Nat → V → Hp → Prop) a) := ev_callS (pre := ((fun (a : Q0 × Nat) => [Pl K C a.1.1, D K (eOpts a.1.2.1), Dk K (eLoads a.1.2.2.1), Dk K (eTimers a.1.2.2.2), D K (.int a.2)]) : Q0 × Nat → List (V → Hp → Prop))) (ok := ((fun a => q0ok a.1 ∧ a.2 ≤ 10 ^ 18) : Q0 × Nat → Prop)) (post := ((fun a => D K (.list (ePairs (dayP a.1.1 a.1.2.1 a.1.2.2.1 a.1.2.2.2 a.2)))) : Q0 × Nat → V → Hp → Prop)) a ha rfl h
theorem c_day_rows {σ : St} {G : Hp} {tt : TA} (a : Q0) (ha : EvA tt σ G (((fun (a : Q0) => [Pl K C a.1, D K (eOpts a.2.1), Dk K (eLoads a.2.2.1), Dx K (eTimers a.2.2.2)]) : Q0 → List (V → Hp → Prop)) a)) (h : (q0ok : Q0 → Prop) a) : Ev (tCall (sp_day_rows K C) [] E0 tt) σ G (((fun a => D K (.list ((rowsOf a.1 a.2.1 a.2.2.1 a.2.2.2).map fun r => .list (eNats r)))) : Q0 → V → Hp → Prop) a) := ev_callS (pre := ((fun (a : Q0) => [Pl K C a.1, D K (eOpts a.2.1), Dk K (eLoads a.2.2.1), Dx K (eTimers a.2.2.2)]) : Q0 → List (V → Hp → Prop))) (ok := (q0ok : Q0 → Prop)) (post := ((fun a => D K (.list ((rowsOf a.1 a.2.1 a.2.2.1 a.2.2.2).map fun r => .list (eNats r)))) : Q0 → V → Hp → Prop)) a ha rfl h
theorem c_trips_until {σ : St} {G : Hp} {tt : TA} (a : Q0 × Nat) (ha : EvA tt σ G (((fun (a : Q0 × Nat) => [Pl K C a.1.1, D K (eOpts a.1.2.1), Dk K (eLoads a.1.2.2.1), Dx K (eTimers a.1.2.2.2), D K (.int a.2)]) : Q0 × Nat → List (V → Hp → Prop)) a)) (h : ((fun a => q0ok a.1 ∧ a.2 ≤ 10 ^ 18) : Q0 × Nat → Prop) a) : Ev (tCall (sp_trips_until K C) [] E0 tt) σ G (((fun a => D K (.tuple ((List.range a.1.1.rates.length).map fun b => .int ((sumTo (cnt a.1.1 a.1.2.1 a.1.2.2.1 a.1.2.2.2 b) a.2 : Nat) : Int)))) : Q0 × Nat → V → Hp → Prop) a) := ev_callS (pre := ((fun (a : Q0 × Nat) => [Pl K C a.1.1, D K (eOpts a.1.2.1), Dk K (eLoads a.1.2.2.1), Dx K (eTimers a.1.2.2.2), D K (.int a.2)]) : Q0 × Nat → List (V → Hp → Prop))) (ok := ((fun a => q0ok a.1 ∧ a.2 ≤ 10 ^ 18) : Q0 × Nat → Prop)) (post := ((fun a => D K (.tuple ((List.range a.1.1.rates.length).map fun b => .int ((sumTo (cnt a.1.1 a.1.2.1 a.1.2.2.1 a.1.2.2.2 b) a.2 : Nat) : Int)))) : Q0 × Nat → V → Hp → Prop)) a ha rfl h
theorem c_first_day {σ : St} {G : Hp} {tt : TA} (a : Q0 × Nat) (ha : EvA tt σ G (((fun (a : Q0 × Nat) => [Pl K C a.1.1, D K (eOpts a.1.2.1), Dk K (eLoads a.1.2.2.1), Dx K (eTimers a.1.2.2.2), D K (.int a.2)]) : Q0 × Nat → List (V → Hp → Prop)) a)) (h : ((fun a => q0ok a.1 ∧ a.2 < a.1.1.rates.length) : Q0 × Nat → Prop) a) : Ev (tCall (sp_first_day K C) [] E0 tt) σ G (((fun a => D K (eOpt ((List.range 12).find? fun n => decide (0 < cnt a.1.1 a.1.2.1 a.1.2.2.1 a.1.2.2.2 a.2 n)))) : Q0 × Nat → V → Hp → Prop) a) := ev_callS (pre := ((fun (a : Q0 × Nat) => [Pl K C a.1.1, D K (eOpts a.1.2.1), Dk K (eLoads a.1.2.2.1), Dx K (eTimers a.1.2.2.2), D K (.int a.2)]) : Q0 × Nat → List (V → Hp → Prop))) (ok := ((fun a => q0ok a.1 ∧ a.2 < a.1.1.rates.length) : Q0 × Nat → Prop)) (post := ((fun a => D K (eOpt ((List.range 12).find? fun n => decide (0 < cnt a.1.1 a.1.2.1 a.1.2.2.1 a.1.2.2.2 a.2 n)))) : Q0 × Nat → V → Hp → Prop)) a ha rfl h
theorem c_all_shifts {σ : St} {G : Hp} {tt : TA} (a : Timers) (ha : EvA tt σ G (((fun (ts : Timers) => [Dk K (eTimers ts), D K (.int 0)]) : Timers → List (V → Hp → Prop)) a)) (h : ((fun ts => ts.length ≤ 5 ∧ (ts.map Prod.fst).Nodup ∧ ∀ p ∈ ts, TmOk p.2) : Timers → Prop) a) : Ev (tCall (sp_all_shifts K C) [] E0 tt) σ G (((fun _ => D K (.list [.list []])) : Timers → V → Hp → Prop) a) := ev_callS (pre := ((fun (ts : Timers) => [Dk K (eTimers ts), D K (.int 0)]) : Timers → List (V → Hp → Prop))) (ok := ((fun ts => ts.length ≤ 5 ∧ (ts.map Prod.fst).Nodup ∧ ∀ p ∈ ts, TmOk p.2) : Timers → Prop)) (post := ((fun _ => D K (.list [.list []])) : Timers → V → Hp → Prop)) a ha rfl h
theorem c_shifted {σ : St} {G : Hp} {tt : TA} (a : Timers) (ha : EvA tt σ G (((fun (ts : Timers) => [Dk K (eTimers ts), D K (.list [])]) : Timers → List (V → Hp → Prop)) a)) (h : ((fun ts => ts.length ≤ 5) : Timers → Prop) a) : Ev (tCall (sp_shifted K C) [] E0 tt) σ G (((fun ts => Dk K (eTimers ts)) : Timers → V → Hp → Prop) a) := ev_callS (pre := ((fun (ts : Timers) => [Dk K (eTimers ts), D K (.list [])]) : Timers → List (V → Hp → Prop))) (ok := ((fun ts => ts.length ≤ 5) : Timers → Prop)) (post := ((fun ts => Dk K (eTimers ts)) : Timers → V → Hp → Prop)) a ha rfl h
theorem c_fewest_shifts {σ : St} {G : Hp} {tt : TA} (a : Q0) (ha : EvA tt σ G (((fun (a : Q0) => [Pl K C a.1, D K (eOpts a.2.1), Dk K (eLoads a.2.2.1), Dx K (eTimers a.2.2.2), D K (.int 0)]) : Q0 → List (V → Hp → Prop)) a)) (h : (q0ok : Q0 → Prop) a) : Ev (tCall (sp_fewest_shifts K C) [] E0 tt) σ G (((fun a => D K (if quietB a then .list [] else .none)) : Q0 → V → Hp → Prop) a) := ev_callS (pre := ((fun (a : Q0) => [Pl K C a.1, D K (eOpts a.2.1), Dk K (eLoads a.2.2.1), Dx K (eTimers a.2.2.2), D K (.int 0)]) : Q0 → List (V → Hp → Prop))) (ok := (q0ok : Q0 → Prop)) (post := ((fun a => D K (if quietB a then .list [] else .none)) : Q0 → V → Hp → Prop)) a ha rfl h
theorem c__law_plan {σ : St} {G : Hp} {tt : TA} (a : PlanD × List PyData) (ha : EvA tt σ G (((fun (a : PlanD × List PyData) => [D K (eS a.1 a.2)]) : PlanD × List PyData → List (V → Hp → Prop)) a)) (h : ((fun a => PlOk a.1) : PlanD × List PyData → Prop) a) : Ev (tCall (sp__law_plan K C) [] E0 tt) σ G (((fun a => Pl K C a.1) : PlanD × List PyData → V → Hp → Prop) a) := ev_callS (pre := ((fun (a : PlanD × List PyData) => [D K (eS a.1 a.2)]) : PlanD × List PyData → List (V → Hp → Prop))) (ok := ((fun a => PlOk a.1) : PlanD × List PyData → Prop)) (post := ((fun a => Pl K C a.1) : PlanD × List PyData → V → Hp → Prop)) a ha rfl h
theorem c__law_has {σ : St} {G : Hp} {tt : TA} (a : PlanD × List PyData × List Bool × Option Nat) (ha : EvA tt σ G (((fun (a : PlanD × List PyData × List Bool × Option Nat) => [D K (eS a.1 a.2.1), D K (eBools a.2.2.1), D K (eOpt a.2.2.2)]) : PlanD × List PyData × List Bool × Option Nat → List (V → Hp → Prop)) a)) (h : ((fun a => PlOk a.1 ∧ a.2.2.1.length = a.1.rates.length ∧ ∀ b, a.2.2.2 = some b → b < a.1.rates.length) : PlanD × List PyData × List Bool × Option Nat → Prop) a) : Ev (tCall (sp__law_has K C) [] E0 tt) σ G (((fun a => D K (.bool (hasPw a.1.above a.2.2.1 a.2.2.2))) : PlanD × List PyData × List Bool × Option Nat → V → Hp → Prop) a) := ev_callS (pre := ((fun (a : PlanD × List PyData × List Bool × Option Nat) => [D K (eS a.1 a.2.1), D K (eBools a.2.2.1), D K (eOpt a.2.2.2)]) : PlanD × List PyData × List Bool × Option Nat → List (V → Hp → Prop))) (ok := ((fun a => PlOk a.1 ∧ a.2.2.1.length = a.1.rates.length ∧ ∀ b, a.2.2.2 = some b → b < a.1.rates.length) : PlanD × List PyData × List Bool × Option Nat → Prop)) (post := ((fun a => D K (.bool (hasPw a.1.above a.2.2.1 a.2.2.2))) : PlanD × List PyData × List Bool × Option Nat → V → Hp → Prop)) a ha rfl h
theorem c__law_lit {σ : St} {G : Hp} {tt : TA} (a : W4) (ha : EvA tt σ G (((fun (a : W4) => [D K (eS a.1 a.2.1), D K (eOpts a.2.2.1), D K (eBools a.2.2.2)]) : W4 → List (V → Hp → Prop)) a)) (h : ((fun a => PlOk a.1 ∧ WirOk a.1 a.2.2.1 ∧ a.2.2.2.length = a.1.rates.length) : W4 → Prop) a) : Ev (tCall (sp__law_lit K C) [] E0 tt) σ G (((fun a => D K (.list (eNats (litL a.1 a.2.2.1 a.2.2.2)))) : W4 → V → Hp → Prop) a) := ev_callS (pre := ((fun (a : W4) => [D K (eS a.1 a.2.1), D K (eOpts a.2.2.1), D K (eBools a.2.2.2)]) : W4 → List (V → Hp → Prop))) (ok := ((fun a => PlOk a.1 ∧ WirOk a.1 a.2.2.1 ∧ a.2.2.2.length = a.1.rates.length) : W4 → Prop)) (post := ((fun a => D K (.list (eNats (litL a.1 a.2.2.1 a.2.2.2)))) : W4 → V → Hp → Prop)) a ha rfl h
theorem c__law_under {σ : St} {G : Hp} {tt : TA} (a : PlanD × List PyData × Option Nat × Nat) (ha : EvA tt σ G (((fun (a : PlanD × List PyData × Option Nat × Nat) => [D K (eS a.1 a.2.1), D K (eOpt a.2.2.1), D K (.int a.2.2.2)]) : PlanD × List PyData × Option Nat × Nat → List (V → Hp → Prop)) a)) (h : ((fun a => PlOk a.1 ∧ ∀ b, a.2.2.1 = some b → b < a.1.rates.length) : PlanD × List PyData × Option Nat × Nat → Prop) a) : Ev (tCall (sp__law_under K C) [] E0 tt) σ G (((fun a => D K (.bool (onLine a.1.above a.2.2.2 a.2.2.1))) : PlanD × List PyData × Option Nat × Nat → V → Hp → Prop) a) := ev_callS (pre := ((fun (a : PlanD × List PyData × Option Nat × Nat) => [D K (eS a.1 a.2.1), D K (eOpt a.2.2.1), D K (.int a.2.2.2)]) : PlanD × List PyData × Option Nat × Nat → List (V → Hp → Prop))) (ok := ((fun a => PlOk a.1 ∧ ∀ b, a.2.2.1 = some b → b < a.1.rates.length) : PlanD × List PyData × Option Nat × Nat → Prop)) (post := ((fun a => D K (.bool (onLine a.1.above a.2.2.2 a.2.2.1))) : PlanD × List PyData × Option Nat × Nat → V → Hp → Prop)) a ha rfl h
theorem c__law_flows {σ : St} {G : Hp} {tt : TA} (a : W5) (ha : EvA tt σ G (((fun (a : W5) => [D K (eS a.1 a.2.1), D K (eOpts a.2.2.1), D K (eBools a.2.2.2.1), Dk K (eLoads a.2.2.2.2)]) : W5 → List (V → Hp → Prop)) a)) (h : (w5ok : W5 → Prop) a) : Ev (tCall (sp__law_flows K C) [] E0 tt) σ G (((fun a => D K (.list ((curs a.1 a.2.2.1 a.2.2.2.1 a.2.2.2.2).map PyData.int))) : W5 → V → Hp → Prop) a) := ev_callS (pre := ((fun (a : W5) => [D K (eS a.1 a.2.1), D K (eOpts a.2.2.1), D K (eBools a.2.2.2.1), Dk K (eLoads a.2.2.2.2)]) : W5 → List (V → Hp → Prop))) (ok := (w5ok : W5 → Prop)) (post := ((fun a => D K (.list ((curs a.1 a.2.2.1 a.2.2.2.1 a.2.2.2.2).map PyData.int))) : W5 → V → Hp → Prop)) a ha rfl h
theorem c__law_tripped {σ : St} {G : Hp} {tt : TA} (a : W5) (ha : EvA tt σ G (((fun (a : W5) => [D K (eS a.1 a.2.1), D K (eOpts a.2.2.1), D K (eBools a.2.2.2.1), Dk K (eLoads a.2.2.2.2)]) : W5 → List (V → Hp → Prop)) a)) (h : ((fun a => w5ok a ∧ ∀ p ∈ a.2.2.2.2, 0 ≤ p.2) : W5 → Prop) a) : Ev (tCall (sp__law_tripped K C) [] E0 tt) σ G (((fun a => D K (.tuple [eBools (trips a.1 a.2.2.1 a.2.2.2.1 a.2.2.2.2).1, .tuple (eNats (trips a.1 a.2.2.1 a.2.2.2.1 a.2.2.2.2).2)])) : W5 → V → Hp → Prop) a) := ev_callS (pre := ((fun (a : W5) => [D K (eS a.1 a.2.1), D K (eOpts a.2.2.1), D K (eBools a.2.2.2.1), Dk K (eLoads a.2.2.2.2)]) : W5 → List (V → Hp → Prop))) (ok := ((fun a => w5ok a ∧ ∀ p ∈ a.2.2.2.2, 0 ≤ p.2) : W5 → Prop)) (post := ((fun a => D K (.tuple [eBools (trips a.1 a.2.2.1 a.2.2.2.1 a.2.2.2.2).1, .tuple (eNats (trips a.1 a.2.2.1 a.2.2.2.1 a.2.2.2.2).2)])) : W5 → V → Hp → Prop)) a ha rfl h
theorem c__law_day {σ : St} {G : Hp} {tt : TA} (a : PlanD × List PyData × List (Option Nat) × Loads × Timers × Nat) (ha : EvA tt σ G (((fun (a : PlanD × List PyData × List (Option Nat) × Loads × Timers × Nat) => [D K (eS a.1 a.2.1), D K (eOpts a.2.2.1), Dx K (eLoads a.2.2.2.1), Dk K (eTimers a.2.2.2.2.1), D K (.int a.2.2.2.2.2)]) : PlanD × List PyData × List (Option Nat) × Loads × Timers × Nat → List (V → Hp → Prop)) a)) (h : ((fun a => PlOk a.1 ∧ WirOk a.1 a.2.2.1 ∧ LdOk a.1 a.2.2.2.1 ∧ ∀ p ∈ a.2.2.2.2.1, TmOk p.2) : PlanD × List PyData × List (Option Nat) × Loads × Timers × Nat → Prop) a) : Ev (tCall (sp__law_day K C) [] E0 tt) σ G (((fun a => D K (.list (ePairs (dayP a.1 a.2.2.1 a.2.2.2.1 a.2.2.2.2.1 a.2.2.2.2.2)))) : PlanD × List PyData × List (Option Nat) × Loads × Timers × Nat → V → Hp → Prop) a) := ev_callS (pre := ((fun (a : PlanD × List PyData × List (Option Nat) × Loads × Timers × Nat) => [D K (eS a.1 a.2.1), D K (eOpts a.2.2.1), Dx K (eLoads a.2.2.2.1), Dk K (eTimers a.2.2.2.2.1), D K (.int a.2.2.2.2.2)]) : PlanD × List PyData × List (Option Nat) × Loads × Timers × Nat → List (V → Hp → Prop))) (ok := ((fun a => PlOk a.1 ∧ WirOk a.1 a.2.2.1 ∧ LdOk a.1 a.2.2.2.1 ∧ ∀ p ∈ a.2.2.2.2.1, TmOk p.2) : PlanD × List PyData × List (Option Nat) × Loads × Timers × Nat → Prop)) (post := ((fun a => D K (.list (ePairs (dayP a.1 a.2.2.1 a.2.2.2.1 a.2.2.2.2.1 a.2.2.2.2.2)))) : PlanD × List PyData × List (Option Nat) × Loads × Timers × Nat → V → Hp → Prop)) a ha rfl h
theorem c__law_wirings {σ : St} {G : Hp} {tt : TA} (a : PlanD) (ha : EvA tt σ G (((fun (pl : PlanD) => [D K (eS pl [])]) : PlanD → List (V → Hp → Prop)) a)) (h : ((fun pl => PlOk pl ∧ pl.rates.length ≤ 3 ∧ pl.points.length ≤ 4) : PlanD → Prop) a) : Ev (tCall (sp__law_wirings K C) [] E0 tt) σ G (((fun pl => fun v G => ∃ ws : List (List (Option Nat)), ws ≠ [] ∧ ws.length ≤ 256 ∧ (∀ w ∈ ws, WirOk pl w ∧ Follows pl w) ∧ D K (.list (ws.map eOpts)) v G) : PlanD → V → Hp → Prop) a) := ev_callS (pre := ((fun (pl : PlanD) => [D K (eS pl [])]) : PlanD → List (V → Hp → Prop))) (ok := ((fun pl => PlOk pl ∧ pl.rates.length ≤ 3 ∧ pl.points.length ≤ 4) : PlanD → Prop)) (post := ((fun pl => fun v G => ∃ ws : List (List (Option Nat)), ws ≠ [] ∧ ws.length ≤ 256 ∧ (∀ w ∈ ws, WirOk pl w ∧ Follows pl w) ∧ D K (.list (ws.map eOpts)) v G) : PlanD → V → Hp → Prop)) a ha rfl h
end
end Bf
set_option Elab.async false
set_option linter.all false
set_option maxRecDepth 100000
set_option maxHeartbeats 4000000
/-! The derivations of the defs' readings. Printed by mkdv.py. -/
namespace Bf
open PySem PyProof.Rows L2
/-- what the module's names hold -/
structure Txf (mg : Str → Option Value) : Prop where
  f_len : mg "len" = none
  f_int : mg "int" = none
  f_bool : mg "bool" = none
  f_str : mg "str" = none
  f_tuple : mg "tuple" = none
  f_list : mg "list" = none
  f_range : mg "range" = none
  f_sum : mg "sum" = none
  f_all : mg "all" = none
  f_isinstance : mg "isinstance" = none
  f_min : mg "min" = none
  f_sorted : mg "sorted" = none
  f_set : mg "set" = none
  f_dict : mg "dict" = none
  f_zip : mg "zip" = none
  f_enumerate : mg "enumerate" = none
  i_MAX_LETTERS : ∃ t, mg "MAX_LETTERS" = some (.int 8 t)
  i_MAX_BREAKERS : ∃ t, mg "MAX_BREAKERS" = some (.int 5 t)
  i_MAX_RATE : ∃ t, mg "MAX_RATE" = some (.int 99 t)
  i_MAX_POINTS : ∃ t, mg "MAX_POINTS" = some (.int 5 t)
  i_MAX_ROOM : ∃ t, mg "MAX_ROOM" = some (.int 9 t)
  i_MAX_LOAD : ∃ t, mg "MAX_LOAD" = some (.int 99 t)
  i_HOURS : ∃ t, mg "HOURS" = some (.int 24 t)
  i_MAX_EVERY : ∃ t, mg "MAX_EVERY" = some (.int 9 t)
  i_MAX_COUNT : ∃ t, mg "MAX_COUNT" = some (.int 1000000000000000000 t)
  i_MAX_SHIFTS : ∃ t, mg "MAX_SHIFTS" = some (.int 2 t)
  s_LETTERS : ∃ t, mg "LETTERS" = some (.str "abcdefghijklmnopqrstuvwxyz" t)
  s_LAMP : ∃ t, mg "LAMP" = some (.str "lamp" t)
  s_PLUG : ∃ t, mg "PLUG" = some (.str "plug" t)
  s_FREE : ∃ t, mg "FREE" = some (.str "free" t)
  s_ROOMS : ∃ t, mg "ROOMS" = some (.str "rooms" t)
/-- the plan's class: its properties, its length -/
structure PlP (P : Program) (w : World) (K : PySem.W.Frag) (mg : Str → Option Value) (base : Heap) (C : Addr) : Prop where
  rates : PrX P w K mg base C 1 "rates" (sp_rates K C)
  above : PrX P w K mg base C 1 "above" (sp_above K C)
  points : PrX P w K mg base C 1 "points" (sp_points K C)
  rule : PrX P w K mg base C 1 "rule" (sp_rule K C)
  names : PrX P w K mg base C 1 "names" (sp_names K C)
  len : LnX P w K mg base C 1 (sp_len K C)
abbrev rLenP (K : PySem.W.Frag) (C : Addr) : List V → Hp → VK → Prop := rLenO C (sp_len K C)
theorem call_lenP {X : Cx} {C : Addr} (h : LnX X.prog X.w X.K X.mg X.base C 1 (sp_len X.K C)) (hr : Room 2 X.A) : CallR X (.builtin "len") (rLenP X.K C) := call_lenO h hr
end Bf
set_option Elab.async false
set_option linter.all false
set_option maxRecDepth 100000
set_option maxHeartbeats 4000000
/-! The derivations of the defs' readings. Printed by mkdv.py. -/
namespace Bf
open PySem PyProof.Rows L2
def t_is_number (P : Program) (w : World) (K : PySem.W.Frag) (C : Addr) : TS := tSeq (tRet (tAndV (tCB (rIsi K) (tCons (tVar 0) (tCons (tC (.ty "int")) (tNil)))) (tAndV (tNotV (tCB (rIsi K) (tCons (tVar 0) (tCons (tC (.ty "bool")) (tNil))))) (tChain (rI0 fun i j => .bl (decide (i ≤ j))) (rI0 fun i j => .bl (decide (i ≤ j))) (tVar 1) (tVar 0) (tVar 2))))) (tNext)
theorem dv_is_number {P : Program} {w : World} {K : PySem.W.Frag} {mg : Str → Option Value} {base : Heap} {C : Addr} {f : Addr} {cdv : Value} {A : Around} {outer : List Env} {s : Shared} {H : Hp} {E : XK} (T : Txf mg) (hr : Room 0 (A.deeper (envOfC "is_number" (defScope st_is_number) s.heap.objs.size f cdv))) :
    PSs (cxOf CX0 P w K mg base nm_is_number "is_number" (defScope st_is_number) f cdv A outer s H E).nox (defBody st_is_number) (t_is_number P w K C) := by
  have nd := sc_is_number.nd
  have h : PSs (cxOf CX0 P w K mg base nm_is_number "is_number" (defScope st_is_number) f cdv A outer s H E).nox (defBody st_is_number) (tSeq (tRet (tAndV (tCB (rIsi K) (tCons (tVar 0) (tCons (tC (.ty "int")) (tNil)))) (tAndV (tNotV (tCB (rIsi K) (tCons (tVar 0) (tCons (tC (.ty "bool")) (tNil))))) (tChain (rI0 fun i j => .bl (decide (i ≤ j))) (rI0 fun i j => .bl (decide (i ≤ j))) (tVar 1) (tVar 0) (tVar 2))))) (tNext)) := pss_cons (ps_ret (pe_and (pe_callB call_isi (by rfl) T.f_isinstance (by decide +kernel) (pa_cons (pv 0) (pa_cons (pe_ty (n := "int") (by rfl) T.f_int (by decide +kernel)) (pa_nil)))) (pe_and (pe_not (pe_callB call_isi (by rfl) T.f_isinstance (by decide +kernel) (pa_cons (pv 0) (pa_cons (pe_ty (n := "bool") (by rfl) T.f_bool (by decide +kernel)) (pa_nil))))) (pe_one (pe_chain op_le op_le (pv 1) (pv 0) (pv 2)))))) (pss_nil)
  exact h
def t_is_word (P : Program) (w : World) (K : PySem.W.Frag) (C : Addr) : TS := tSeq (tIfS (tOr (tNot (tB (tCB (rIsi K) (tCons (tVar 0) (tCons (tC (.ty "str")) (tNil)))))) (tNot (tTest (tChain (rI0 fun i j => .bl (decide (i ≤ j))) (rI0 fun i j => .bl (decide (i ≤ j))) (tC (.int 1)) (tCB (rLen K) (tCons (tVar 0) (tNil))) (tC (.int 8)))))) (tSeq (tRet (tC (.bl false))) (tNext)) (tNext)) (tSeq (tRet (tCB (rAll K) (tCons (tLc (iStr (tVar 0)) (gName 1) (tYes) (tOp rInS (tVar 1) (tC (.str "abcdefghijklmnopqrstuvwxyz"))) [1]) (tNil)))) (tNext))
theorem dv_is_word {P : Program} {w : World} {K : PySem.W.Frag} {mg : Str → Option Value} {base : Heap} {C : Addr} {f : Addr} {cdv : Value} {A : Around} {outer : List Env} {s : Shared} {H : Hp} {E : XK} (T : Txf mg) (hr : Room 0 (A.deeper (envOfC "is_word" (defScope st_is_word) s.heap.objs.size f cdv))) :
    PSs (cxOf CX0 P w K mg base nm_is_word "is_word" (defScope st_is_word) f cdv A outer s H E).nox (defBody st_is_word) (t_is_word P w K C) := by
  have nd := sc_is_word.nd
  have h : PSs (cxOf CX0 P w K mg base nm_is_word "is_word" (defScope st_is_word) f cdv A outer s H E).nox (defBody st_is_word) (tSeq (tIfS (tOr (tNot (tB (tCB (rIsi K) (tCons (tVar 0) (tCons (tC (.ty "str")) (tNil)))))) (tNot (tTest (tChain (rI0 fun i j => .bl (decide (i ≤ j))) (rI0 fun i j => .bl (decide (i ≤ j))) (tC (.int 1)) (tCB (rLen K) (tCons (tVar 0) (tNil))) (tC (.int 8)))))) (tSeq (tRet (tC (.bl false))) (tNext)) (tNext)) (tSeq (tRet (tCB (rAll K) (tCons (tLc (iStr (tVar 0)) (gName 1) (tYes) (tOp rInS (tVar 1) (tC (.str "abcdefghijklmnopqrstuvwxyz"))) [1]) (tNil)))) (tNext))) := pss_cons (ps_if (PW.pt (pw_or (pt_not (pt_val (pe_callB call_isi (by rfl) T.f_isinstance (by decide +kernel) (pa_cons (pv 0) (pa_cons (pe_ty (n := "str") (by rfl) T.f_str (by decide +kernel)) (pa_nil)))))) (pw_or1 (pt_not (pt_chain op_le op_le (pe_int) (pe_callB call_lenX (by rfl) T.f_len (by decide +kernel) (pa_cons (pv 0) (pa_nil))) (pe_gI T.i_MAX_LETTERS (by rfl))))))) (pss_cons (ps_ret (pe_bl)) (pss_nil)) (pss_nil)) (pss_cons (ps_ret (pe_callB (cr_all rfl) (by rfl) T.f_all (by decide +kernel) (pa_cons (pe_lc (own := [("letter", 1)]) rfl nd (pi_str (pv 0)) (blkOk_by (N := nm_is_word) (sc := defScope st_is_word) (own := [("letter", 1)]) (by decide +kernel)) (fun _ _ _ _ _ => pg_name (i := 1) nd rfl (Or.inl rfl)) (fun _ _ _ _ _ => pts_nil) (fun _ _ _ _ _ => pe_cmpR op_inS (pv 1) (pe_gS T.s_LETTERS (by rfl)) (by rfl))) (pa_nil)))) (pss_nil))
  exact h
def t_are_rates (P : Program) (w : World) (K : PySem.W.Frag) (C : Addr) : TS := tSeq (tRet (tAndV (tChain (rI0 fun i j => .bl (decide (i ≤ j))) (rI0 fun i j => .bl (decide (i ≤ j))) (tC (.int 1)) (tCB (rLen K) (tCons (tVar 0) (tNil))) (tC (.int 5))) (tCB (rAll K) (tCons (tLc (iTup K (tVar 0)) (gName 1) (tYes) (tCall (sp_is_number K C) [] E0 (tCons (tVar 1) (tCons (tC (.int 1)) (tCons (tC (.int 99)) (tNil))))) [1]) (tNil))))) (tNext)
theorem dv_are_rates {P : Program} {w : World} {K : PySem.W.Frag} {mg : Str → Option Value} {base : Heap} {C : Addr} {f : Addr} {cdv : Value} {A : Around} {outer : List Env} {s : Shared} {H : Hp} {E : XK} (T : Txf mg) (D_is_number : FD P w K mg base 1 "is_number" ps_is_number (sp_is_number K C)) (hr : Room 1 (A.deeper (envOfC "are_rates" (defScope st_are_rates) s.heap.objs.size f cdv))) :
    PSs (cxOf CX0 P w K mg base nm_are_rates "are_rates" (defScope st_are_rates) f cdv A outer s H E).nox (defBody st_are_rates) (t_are_rates P w K C) := by
  have nd := sc_are_rates.nd
  have h : PSs (cxOf CX0 P w K mg base nm_are_rates "are_rates" (defScope st_are_rates) f cdv A outer s H E).nox (defBody st_are_rates) (tSeq (tRet (tAndV (tChain (rI0 fun i j => .bl (decide (i ≤ j))) (rI0 fun i j => .bl (decide (i ≤ j))) (tC (.int 1)) (tCB (rLen K) (tCons (tVar 0) (tNil))) (tC (.int 5))) (tCB (rAll K) (tCons (tLc (iTup K (tVar 0)) (gName 1) (tYes) (tCall (sp_is_number K C) [] E0 (tCons (tVar 1) (tCons (tC (.int 1)) (tCons (tC (.int 99)) (tNil))))) [1]) (tNil))))) (tNext)) := pss_cons (ps_ret (pe_and (pe_chain op_le op_le (pe_int) (pe_callB call_lenX (by rfl) T.f_len (by decide +kernel) (pa_cons (pv 0) (pa_nil))) (pe_gI T.i_MAX_BREAKERS (by rfl))) (pe_one (pe_callB (cr_all rfl) (by rfl) T.f_all (by decide +kernel) (pa_cons (pe_lc (own := [("rate", 1)]) rfl nd (pi_tup (pv 0)) (blkOk_by (N := nm_are_rates) (sc := defScope st_are_rates) (own := [("rate", 1)]) (by decide +kernel)) (fun _ _ _ _ _ => pg_name (i := 1) nd rfl (Or.inl rfl)) (fun _ _ _ _ _ => pts_nil) (fun _ _ _ _ _ => pe_callD D_is_number (hr.mono (by decide)) (by rfl) (pa_cons (pv 1) (pa_cons (pe_int) (pa_cons (pe_gI T.i_MAX_RATE (by rfl)) (pa_nil)))))) (pa_nil)))))) (pss_nil)
  exact h
def t_is_point (P : Program) (w : World) (K : PySem.W.Frag) (C : Addr) : TS := tSeq (tIfS (tOr (tNot (tB (tCB (rIsi K) (tCons (tVar 0) (tCons (tC (.ty "tuple")) (tNil)))))) (tTest (tOp (rNeD K) (tCB (rLen K) (tCons (tVar 0) (tNil))) (tC (.int 3))))) (tSeq (tRet (tC (.bl false))) (tNext)) (tNext)) (tSeq (tRet (tAndV (tCall (sp_is_word K C) [] E0 (tCons (tOp (rIx K) (tVar 0) (tC (.int 0))) (tNil))) (tAndV (tOp (rIn K false) (tOp (rIx K) (tVar 0) (tC (.int 1))) (tTup (tCons (tC (.str "lamp")) (tCons (tC (.str "plug")) (tNil))))) (tCall (sp_is_number K C) [] E0 (tCons (tOp (rIx K) (tVar 0) (tC (.int 2))) (tCons (tC (.int 0)) (tCons (tC (.int 9)) (tNil)))))))) (tNext))
theorem dv_is_point {P : Program} {w : World} {K : PySem.W.Frag} {mg : Str → Option Value} {base : Heap} {C : Addr} {f : Addr} {cdv : Value} {A : Around} {outer : List Env} {s : Shared} {H : Hp} {E : XK} (T : Txf mg) (D_is_word : FD P w K mg base 1 "is_word" ps_is_word (sp_is_word K C)) (D_is_number : FD P w K mg base 1 "is_number" ps_is_number (sp_is_number K C)) (hr : Room 1 (A.deeper (envOfC "is_point" (defScope st_is_point) s.heap.objs.size f cdv))) :
    PSs (cxOf CX0 P w K mg base nm_is_point "is_point" (defScope st_is_point) f cdv A outer s H E).nox (defBody st_is_point) (t_is_point P w K C) := by
  have nd := sc_is_point.nd
  have h : PSs (cxOf CX0 P w K mg base nm_is_point "is_point" (defScope st_is_point) f cdv A outer s H E).nox (defBody st_is_point) (tSeq (tIfS (tOr (tNot (tB (tCB (rIsi K) (tCons (tVar 0) (tCons (tC (.ty "tuple")) (tNil)))))) (tTest (tOp (rNeD K) (tCB (rLen K) (tCons (tVar 0) (tNil))) (tC (.int 3))))) (tSeq (tRet (tC (.bl false))) (tNext)) (tNext)) (tSeq (tRet (tAndV (tCall (sp_is_word K C) [] E0 (tCons (tOp (rIx K) (tVar 0) (tC (.int 0))) (tNil))) (tAndV (tOp (rIn K false) (tOp (rIx K) (tVar 0) (tC (.int 1))) (tTup (tCons (tC (.str "lamp")) (tCons (tC (.str "plug")) (tNil))))) (tCall (sp_is_number K C) [] E0 (tCons (tOp (rIx K) (tVar 0) (tC (.int 2))) (tCons (tC (.int 0)) (tCons (tC (.int 9)) (tNil)))))))) (tNext))) := pss_cons (ps_if (PW.pt (pw_or (pt_not (pt_val (pe_callB call_isi (by rfl) T.f_isinstance (by decide +kernel) (pa_cons (pv 0) (pa_cons (pe_ty (n := "tuple") (by rfl) T.f_tuple (by decide +kernel)) (pa_nil)))))) (pw_or1 (pt_cmpR (op_neD hr.units) (pe_callB call_lenX (by rfl) T.f_len (by decide +kernel) (pa_cons (pv 0) (pa_nil))) (pe_int) (nomark _))))) (pss_cons (ps_ret (pe_bl)) (pss_nil)) (pss_nil)) (pss_cons (ps_ret (pe_and (pe_callD D_is_word (hr.mono (by decide)) (by rfl) (pa_cons (pe_ix ix_seq (pv 0) (pe_int) (fun _ _ => rfl)) (pa_nil))) (pe_and (pe_cmpR op_in_seq (pe_ix ix_seq (pv 0) (pe_int) (fun _ _ => rfl)) (pe_tup (pa_cons (pe_gS T.s_LAMP (by rfl)) (pa_cons (pe_gS T.s_PLUG (by rfl)) (pa_nil)))) (by rfl)) (pe_one (pe_callD D_is_number (hr.mono (by decide)) (by rfl) (pa_cons (pe_ix ix_seq (pv 0) (pe_int) (fun _ _ => rfl)) (pa_cons (pe_int) (pa_cons (pe_gI T.i_MAX_ROOM (by rfl)) (pa_nil))))))))) (pss_nil))
  exact h
def t_are_points (P : Program) (w : World) (K : PySem.W.Frag) (C : Addr) : TS := tSeq (tIfS (tOr (tNot (tTest (tChain (rI0 fun i j => .bl (decide (i ≤ j))) (rI0 fun i j => .bl (decide (i ≤ j))) (tC (.int 1)) (tCB (rLen K) (tCons (tVar 0) (tNil))) (tC (.int 5))))) (tNot (tB (tCB (rAll K) (tCons (tLc (iTup K (tVar 0)) (gName 1) (tYes) (tCall (sp_is_point K C) [] E0 (tCons (tVar 1) (tNil))) [1]) (tNil)))))) (tSeq (tRet (tC (.bl false))) (tNext)) (tNext)) (tSeq (tRet (tCB (rAll K) (tCons (tLc (RZ.iZipA K (tCons (tVar 0) (tCons (tSl (rCut K) (tVar 0) (tPart (tC (.int 1))) (tNoPart)) (tNil)))) (gTup K 2 (gCons (gName 2) (gCons (gName 3) (gNil)))) (tYes) (tOp (rLtS) (tOp (rIx K) (tVar 2) (tC (.int 0))) (tOp (rIx K) (tVar 3) (tC (.int 0)))) [2, 3]) (tNil)))) (tNext))
theorem dv_are_points {P : Program} {w : World} {K : PySem.W.Frag} {mg : Str → Option Value} {base : Heap} {C : Addr} {f : Addr} {cdv : Value} {A : Around} {outer : List Env} {s : Shared} {H : Hp} {E : XK} (T : Txf mg) (D_is_point : FD P w K mg base 2 "is_point" ps_is_point (sp_is_point K C)) (hr : Room 2 (A.deeper (envOfC "are_points" (defScope st_are_points) s.heap.objs.size f cdv))) :
    PSs (cxOf CX0 P w K mg base nm_are_points "are_points" (defScope st_are_points) f cdv A outer s H E).nox (defBody st_are_points) (t_are_points P w K C) := by
  have nd := sc_are_points.nd
  have h : PSs (cxOf CX0 P w K mg base nm_are_points "are_points" (defScope st_are_points) f cdv A outer s H E).nox (defBody st_are_points) (tSeq (tIfS (tOr (tNot (tTest (tChain (rI0 fun i j => .bl (decide (i ≤ j))) (rI0 fun i j => .bl (decide (i ≤ j))) (tC (.int 1)) (tCB (rLen K) (tCons (tVar 0) (tNil))) (tC (.int 5))))) (tNot (tB (tCB (rAll K) (tCons (tLc (iTup K (tVar 0)) (gName 1) (tYes) (tCall (sp_is_point K C) [] E0 (tCons (tVar 1) (tNil))) [1]) (tNil)))))) (tSeq (tRet (tC (.bl false))) (tNext)) (tNext)) (tSeq (tRet (tCB (rAll K) (tCons (tLc (RZ.iZipA K (tCons (tVar 0) (tCons (tSl (rCut K) (tVar 0) (tPart (tC (.int 1))) (tNoPart)) (tNil)))) (gTup K 2 (gCons (gName 2) (gCons (gName 3) (gNil)))) (tYes) (tOp (rLtS) (tOp (rIx K) (tVar 2) (tC (.int 0))) (tOp (rIx K) (tVar 3) (tC (.int 0)))) [2, 3]) (tNil)))) (tNext))) := pss_cons (ps_if (PW.pt (pw_or (pt_not (pt_chain op_le op_le (pe_int) (pe_callB call_lenX (by rfl) T.f_len (by decide +kernel) (pa_cons (pv 0) (pa_nil))) (pe_gI T.i_MAX_POINTS (by rfl)))) (pw_or1 (pt_not (pt_val (pe_callB (cr_all rfl) (by rfl) T.f_all (by decide +kernel) (pa_cons (pe_lc (own := [("point", 1)]) rfl nd (pi_tup (pv 0)) (blkOk_by (N := nm_are_points) (sc := defScope st_are_points) (own := [("point", 1)]) (by decide +kernel)) (fun _ _ _ _ _ => pg_name (i := 1) nd rfl (Or.inl rfl)) (fun _ _ _ _ _ => pts_nil) (fun _ _ _ _ _ => pe_callD D_is_point (hr.mono (by decide)) (by rfl) (pa_cons (pv 1) (pa_nil)))) (pa_nil)))))))) (pss_cons (ps_ret (pe_bl)) (pss_nil)) (pss_nil)) (pss_cons (ps_ret (pe_callB (cr_all rfl) (by rfl) T.f_all (by decide +kernel) (pa_cons (pe_lc (own := [("one", 2), ("other", 3)]) rfl nd (RZ.pi_zipA (by rfl) T.f_zip (pa_cons (pv 0) (pa_cons (pe_slice sl_cut (pv 0) (po_some (pe_int)) (po_none)) (pa_nil)))) (blkOk_by (N := nm_are_points) (sc := defScope st_are_points) (own := [("one", 2), ("other", 3)]) (by decide +kernel)) (fun _ _ _ _ _ => pg_tup rfl (pgs_cons (pg_name (i := 2) nd rfl (Or.inl rfl)) (pgs_cons (pg_name (i := 3) nd rfl (Or.inl rfl)) (pgs_nil)))) (fun _ _ _ _ _ => pts_nil) (fun _ _ _ _ _ => pe_cmpR op_ltS (pe_ix ix_seq (pv 2) (pe_int) (fun _ _ => rfl)) (pe_ix ix_seq (pv 3) (pe_int) (fun _ _ => rfl)) (nomark _))) (pa_nil)))) (pss_nil))
  exact h
def t_Plan_rates (P : Program) (w : World) (K : PySem.W.Frag) (C : Addr) : TS := tSeq (tRet (tOp (rIx K) (SlX.tSl K (tVar 0) "parts") (tC (.int 0)))) (tNext)
theorem dv_Plan_rates {P : Program} {w : World} {K : PySem.W.Frag} {mg : Str → Option Value} {base : Heap} {C : Addr} {f : Addr} {cdv : Value} {A : Around} {outer : List Env} {s : Shared} {H : Hp} {E : XK} (T : Txf mg) (hr : Room 0 (A.deeper (envOfC "Plan.rates" (defScope st_Plan_rates) s.heap.objs.size f cdv))) :
    PSs (cxOf CX0 P w K mg base nm_Plan_rates "Plan.rates" (defScope st_Plan_rates) f cdv A outer s H E).nox (defBody st_Plan_rates) (t_Plan_rates P w K C) := by
  have nd := sc_Plan_rates.nd
  have h : PSs (cxOf CX0 P w K mg base nm_Plan_rates "Plan.rates" (defScope st_Plan_rates) f cdv A outer s H E).nox (defBody st_Plan_rates) (tSeq (tRet (tOp (rIx K) (SlX.tSl K (tVar 0) "parts") (tC (.int 0)))) (tNext)) := pss_cons (ps_ret (pe_ix ix_seq (SlX.pe_sl (pv 0)) (pe_int) (fun _ _ => rfl))) (pss_nil)
  exact h
def t_Plan_above (P : Program) (w : World) (K : PySem.W.Frag) (C : Addr) : TS := tSeq (tRet (tOp (rIx K) (SlX.tSl K (tVar 0) "parts") (tC (.int 1)))) (tNext)
theorem dv_Plan_above {P : Program} {w : World} {K : PySem.W.Frag} {mg : Str → Option Value} {base : Heap} {C : Addr} {f : Addr} {cdv : Value} {A : Around} {outer : List Env} {s : Shared} {H : Hp} {E : XK} (T : Txf mg) (hr : Room 0 (A.deeper (envOfC "Plan.above" (defScope st_Plan_above) s.heap.objs.size f cdv))) :
    PSs (cxOf CX0 P w K mg base nm_Plan_above "Plan.above" (defScope st_Plan_above) f cdv A outer s H E).nox (defBody st_Plan_above) (t_Plan_above P w K C) := by
  have nd := sc_Plan_above.nd
  have h : PSs (cxOf CX0 P w K mg base nm_Plan_above "Plan.above" (defScope st_Plan_above) f cdv A outer s H E).nox (defBody st_Plan_above) (tSeq (tRet (tOp (rIx K) (SlX.tSl K (tVar 0) "parts") (tC (.int 1)))) (tNext)) := pss_cons (ps_ret (pe_ix ix_seq (SlX.pe_sl (pv 0)) (pe_int) (fun _ _ => rfl))) (pss_nil)
  exact h
def t_Plan_points (P : Program) (w : World) (K : PySem.W.Frag) (C : Addr) : TS := tSeq (tRet (tOp (rIx K) (SlX.tSl K (tVar 0) "parts") (tC (.int 2)))) (tNext)
theorem dv_Plan_points {P : Program} {w : World} {K : PySem.W.Frag} {mg : Str → Option Value} {base : Heap} {C : Addr} {f : Addr} {cdv : Value} {A : Around} {outer : List Env} {s : Shared} {H : Hp} {E : XK} (T : Txf mg) (hr : Room 0 (A.deeper (envOfC "Plan.points" (defScope st_Plan_points) s.heap.objs.size f cdv))) :
    PSs (cxOf CX0 P w K mg base nm_Plan_points "Plan.points" (defScope st_Plan_points) f cdv A outer s H E).nox (defBody st_Plan_points) (t_Plan_points P w K C) := by
  have nd := sc_Plan_points.nd
  have h : PSs (cxOf CX0 P w K mg base nm_Plan_points "Plan.points" (defScope st_Plan_points) f cdv A outer s H E).nox (defBody st_Plan_points) (tSeq (tRet (tOp (rIx K) (SlX.tSl K (tVar 0) "parts") (tC (.int 2)))) (tNext)) := pss_cons (ps_ret (pe_ix ix_seq (SlX.pe_sl (pv 0)) (pe_int) (fun _ _ => rfl))) (pss_nil)
  exact h
def t_Plan_rule (P : Program) (w : World) (K : PySem.W.Frag) (C : Addr) : TS := tSeq (tRet (tOp (rIx K) (SlX.tSl K (tVar 0) "parts") (tC (.int 3)))) (tNext)
theorem dv_Plan_rule {P : Program} {w : World} {K : PySem.W.Frag} {mg : Str → Option Value} {base : Heap} {C : Addr} {f : Addr} {cdv : Value} {A : Around} {outer : List Env} {s : Shared} {H : Hp} {E : XK} (T : Txf mg) (hr : Room 0 (A.deeper (envOfC "Plan.rule" (defScope st_Plan_rule) s.heap.objs.size f cdv))) :
    PSs (cxOf CX0 P w K mg base nm_Plan_rule "Plan.rule" (defScope st_Plan_rule) f cdv A outer s H E).nox (defBody st_Plan_rule) (t_Plan_rule P w K C) := by
  have nd := sc_Plan_rule.nd
  have h : PSs (cxOf CX0 P w K mg base nm_Plan_rule "Plan.rule" (defScope st_Plan_rule) f cdv A outer s H E).nox (defBody st_Plan_rule) (tSeq (tRet (tOp (rIx K) (SlX.tSl K (tVar 0) "parts") (tC (.int 3)))) (tNext)) := pss_cons (ps_ret (pe_ix ix_seq (SlX.pe_sl (pv 0)) (pe_int) (fun _ _ => rfl))) (pss_nil)
  exact h
def t_Plan_names (P : Program) (w : World) (K : PySem.W.Frag) (C : Addr) : TS := tSeq (tRet (tCB (rTupC K) (tCons (tLc (iTup K (tOp (rIx K) (SlX.tSl K (tVar 0) "parts") (tC (.int 2)))) (gName 1) (tYes) (tOp (rIx K) (tVar 1) (tC (.int 0))) [1]) (tNil)))) (tNext)
theorem dv_Plan_names {P : Program} {w : World} {K : PySem.W.Frag} {mg : Str → Option Value} {base : Heap} {C : Addr} {f : Addr} {cdv : Value} {A : Around} {outer : List Env} {s : Shared} {H : Hp} {E : XK} (T : Txf mg) (hr : Room 0 (A.deeper (envOfC "Plan.names" (defScope st_Plan_names) s.heap.objs.size f cdv))) :
    PSs (cxOf CX0 P w K mg base nm_Plan_names "Plan.names" (defScope st_Plan_names) f cdv A outer s H E).nox (defBody st_Plan_names) (t_Plan_names P w K C) := by
  have nd := sc_Plan_names.nd
  have h : PSs (cxOf CX0 P w K mg base nm_Plan_names "Plan.names" (defScope st_Plan_names) f cdv A outer s H E).nox (defBody st_Plan_names) (tSeq (tRet (tCB (rTupC K) (tCons (tLc (iTup K (tOp (rIx K) (SlX.tSl K (tVar 0) "parts") (tC (.int 2)))) (gName 1) (tYes) (tOp (rIx K) (tVar 1) (tC (.int 0))) [1]) (tNil)))) (tNext)) := pss_cons (ps_ret (pe_callTy call_tupX (by rfl) T.f_tuple (by decide +kernel) (pa_cons (pe_lc (own := [("point", 1)]) rfl nd (pi_tup (pe_ix ix_seq (SlX.pe_sl (pv 0)) (pe_int) (fun _ _ => rfl))) (blkOk_by (N := nm_Plan_names) (sc := defScope st_Plan_names) (own := [("point", 1)]) (by decide +kernel)) (fun _ _ _ _ _ => pg_name (i := 1) nd rfl (Or.inl rfl)) (fun _ _ _ _ _ => pts_nil) (fun _ _ _ _ _ => pe_ix ix_seq (pv 1) (pe_int) (fun _ _ => rfl))) (pa_nil)))) (pss_nil)
  exact h
def t_Plan___len__ (P : Program) (w : World) (K : PySem.W.Frag) (C : Addr) : TS := tSeq (tRet (tCB (rLen K) (tCons (tOp (rIx K) (SlX.tSl K (tVar 0) "parts") (tC (.int 0))) (tNil)))) (tNext)
theorem dv_Plan___len__ {P : Program} {w : World} {K : PySem.W.Frag} {mg : Str → Option Value} {base : Heap} {C : Addr} {f : Addr} {cdv : Value} {A : Around} {outer : List Env} {s : Shared} {H : Hp} {E : XK} (T : Txf mg) (hr : Room 0 (A.deeper (envOfC "Plan.__len__" (defScope st_Plan___len__) s.heap.objs.size f cdv))) :
    PSs (cxOf CX0 P w K mg base nm_Plan___len__ "Plan.__len__" (defScope st_Plan___len__) f cdv A outer s H E).nox (defBody st_Plan___len__) (t_Plan___len__ P w K C) := by
  have nd := sc_Plan___len__.nd
  have h : PSs (cxOf CX0 P w K mg base nm_Plan___len__ "Plan.__len__" (defScope st_Plan___len__) f cdv A outer s H E).nox (defBody st_Plan___len__) (tSeq (tRet (tCB (rLen K) (tCons (tOp (rIx K) (SlX.tSl K (tVar 0) "parts") (tC (.int 0))) (tNil)))) (tNext)) := pss_cons (ps_ret (pe_callB call_lenX (by rfl) T.f_len (by decide +kernel) (pa_cons (pe_ix ix_seq (SlX.pe_sl (pv 0)) (pe_int) (fun _ _ => rfl)) (pa_nil)))) (pss_nil)
  exact h
def t_does_follow (P : Program) (w : World) (K : PySem.W.Frag) (C : Addr) : TS := tSeq (tIfS (tTest (tOp (rEqD K) (SlX.tPropSl C (sp_rule K C) E0 (tVar 0)) (tC (.str "free")))) (tSeq (tRet (tC (.bl true))) (tNext)) (tNext)) (tSeq (tAsg (tDNewK) (gName 2)) (tSeq (tFor (RZ.iZipA K (tCons (SlX.tPropSl C (sp_points K C) E0 (tVar 0)) (tCons (tVar 1) (tNil)))) (gTup K 2 (gCons (gName 3) (gCons (gName 4) (gNil)))) (tSeq (tIfS (tAnd (tTest (tOp (rEqD K) (tOp (rIx K) (tVar 3) (tC (.int 1))) (tC (.str "lamp")))) (tTest (tOp (rNeD K) (tDSetd (tVar 2) (tOp (rIx K) (tVar 3) (tC (.int 2))) (tVar 4)) (tVar 4)))) (tSeq (tRet (tC (.bl false))) (tNext)) (tNext)) (tNext))) (tSeq (tRet (tC (.bl true))) (tNext))))
theorem dv_does_follow {P : Program} {w : World} {K : PySem.W.Frag} {mg : Str → Option Value} {base : Heap} {C : Addr} {f : Addr} {cdv : Value} {A : Around} {outer : List Env} {s : Shared} {H : Hp} {E : XK} (T : Txf mg) (PP : PlP P w K mg base C) (hr : Room 2 (A.deeper (envOfC "does_follow" (defScope st_does_follow) s.heap.objs.size f cdv))) :
    PSs (cxOf CX0 P w K mg base nm_does_follow "does_follow" (defScope st_does_follow) f cdv A outer s H E).nox (defBody st_does_follow) (t_does_follow P w K C) := by
  have nd := sc_does_follow.nd
  have h : PSs (cxOf CX0 P w K mg base nm_does_follow "does_follow" (defScope st_does_follow) f cdv A outer s H E).nox (defBody st_does_follow) (tSeq (tIfS (tTest (tOp (rEqD K) (SlX.tPropSl C (sp_rule K C) E0 (tVar 0)) (tC (.str "free")))) (tSeq (tRet (tC (.bl true))) (tNext)) (tNext)) (tSeq (tAsg (tDNewK) (gName 2)) (tSeq (tFor (RZ.iZipA K (tCons (SlX.tPropSl C (sp_points K C) E0 (tVar 0)) (tCons (tVar 1) (tNil)))) (gTup K 2 (gCons (gName 3) (gCons (gName 4) (gNil)))) (tSeq (tIfS (tAnd (tTest (tOp (rEqD K) (tOp (rIx K) (tVar 3) (tC (.int 1))) (tC (.str "lamp")))) (tTest (tOp (rNeD K) (tDSetd (tVar 2) (tOp (rIx K) (tVar 3) (tC (.int 2))) (tVar 4)) (tVar 4)))) (tSeq (tRet (tC (.bl false))) (tNext)) (tNext)) (tNext))) (tSeq (tRet (tC (.bl true))) (tNext))))) := pss_cons (ps_if (pt_cmpR (op_eqD hr.units) (pe_propX PP.rule (hr.mono (by decide)) (pv 0)) (pe_gS T.s_FREE (by rfl)) (nomark _)) (pss_cons (ps_ret (pe_bl)) (pss_nil)) (pss_nil)) (pss_cons (ps_set (i := 2) nd rfl (Or.inl rfl) (pe_dnewK)) (pss_cons (ps_for PassesOwn.never rfl (RZ.pi_zipA (by rfl) T.f_zip (pa_cons (pe_propX PP.points (hr.mono (by decide)) (pv 0)) (pa_cons (pv 1) (pa_nil)))) (pg_tup rfl (pgs_cons (pg_name (i := 3) nd rfl (Or.inl rfl)) (pgs_cons (pg_name (i := 4) nd rfl (Or.inl rfl)) (pgs_nil)))) (pss_cons (ps_if (PW.pt (pw_and (pt_cmpR (op_eqD hr.units) (pe_ix ix_seq (pv 3) (pe_int) (fun _ _ => rfl)) (pe_gS T.s_LAMP (by rfl)) (nomark _)) (pw_and1 (pt_cmpR (op_neD hr.units) (pe_dsetd (pv 2) (pe_ix ix_seq (pv 3) (pe_int) (fun _ _ => rfl)) (pv 4) ⟨rfl, rfl, rfl, rfl⟩) (pv 4) (nomark _))))) (pss_cons (ps_ret (pe_bl)) (pss_nil)) (pss_nil)) (pss_nil))) (pss_cons (ps_ret (pe_bl)) (pss_nil))))
  exact h
def t_is_wiring (P : Program) (w : World) (K : PySem.W.Frag) (C : Addr) : TS := tSeq (tIfS (tOr (tNot (tB (tCB (rIsi K) (tCons (tVar 1) (tCons (tC (.ty "tuple")) (tNil)))))) (tTest (tOp (rNeD K) (tCB (rLen K) (tCons (tVar 1) (tNil))) (tCB (rLen K) (tCons (SlX.tPropSl C (sp_points K C) E0 (tVar 0)) (tNil)))))) (tSeq (tRet (tC (.bl false))) (tNext)) (tNext)) (tSeq (tIfS (tNot (tB (tCB (rAll K) (tCons (tLc (iTup K (tVar 1)) (gName 2) (tYes) (tOrV (tIsN (tVar 2)) (tCall (sp_is_number K C) [] E0 (tCons (tVar 2) (tCons (tC (.int 0)) (tCons (tOp (rI0 fun i j => .int (i - j)) (tCB (rLenP K C) (tCons (tVar 0) (tNil))) (tC (.int 1))) (tNil)))))) [2]) (tNil))))) (tSeq (tRet (tC (.bl false))) (tNext)) (tNext)) (tSeq (tRet (tCall (sp_does_follow K C) [] E0 (tCons (tVar 0) (tCons (tVar 1) (tNil))))) (tNext)))
theorem dv_is_wiring {P : Program} {w : World} {K : PySem.W.Frag} {mg : Str → Option Value} {base : Heap} {C : Addr} {f : Addr} {cdv : Value} {A : Around} {outer : List Env} {s : Shared} {H : Hp} {E : XK} (T : Txf mg) (D_does_follow : FD P w K mg base 3 "does_follow" ps_does_follow (sp_does_follow K C)) (D_is_number : FD P w K mg base 1 "is_number" ps_is_number (sp_is_number K C)) (PP : PlP P w K mg base C) (hr : Room 3 (A.deeper (envOfC "is_wiring" (defScope st_is_wiring) s.heap.objs.size f cdv))) :
    PSs (cxOf CX0 P w K mg base nm_is_wiring "is_wiring" (defScope st_is_wiring) f cdv A outer s H E).nox (defBody st_is_wiring) (t_is_wiring P w K C) := by
  have nd := sc_is_wiring.nd
  have h : PSs (cxOf CX0 P w K mg base nm_is_wiring "is_wiring" (defScope st_is_wiring) f cdv A outer s H E).nox (defBody st_is_wiring) (tSeq (tIfS (tOr (tNot (tB (tCB (rIsi K) (tCons (tVar 1) (tCons (tC (.ty "tuple")) (tNil)))))) (tTest (tOp (rNeD K) (tCB (rLen K) (tCons (tVar 1) (tNil))) (tCB (rLen K) (tCons (SlX.tPropSl C (sp_points K C) E0 (tVar 0)) (tNil)))))) (tSeq (tRet (tC (.bl false))) (tNext)) (tNext)) (tSeq (tIfS (tNot (tB (tCB (rAll K) (tCons (tLc (iTup K (tVar 1)) (gName 2) (tYes) (tOrV (tIsN (tVar 2)) (tCall (sp_is_number K C) [] E0 (tCons (tVar 2) (tCons (tC (.int 0)) (tCons (tOp (rI0 fun i j => .int (i - j)) (tCB (rLenP K C) (tCons (tVar 0) (tNil))) (tC (.int 1))) (tNil)))))) [2]) (tNil))))) (tSeq (tRet (tC (.bl false))) (tNext)) (tNext)) (tSeq (tRet (tCall (sp_does_follow K C) [] E0 (tCons (tVar 0) (tCons (tVar 1) (tNil))))) (tNext)))) := pss_cons (ps_if (PW.pt (pw_or (pt_not (pt_val (pe_callB call_isi (by rfl) T.f_isinstance (by decide +kernel) (pa_cons (pv 1) (pa_cons (pe_ty (n := "tuple") (by rfl) T.f_tuple (by decide +kernel)) (pa_nil)))))) (pw_or1 (pt_cmpR (op_neD hr.units) (pe_callB call_lenX (by rfl) T.f_len (by decide +kernel) (pa_cons (pv 1) (pa_nil))) (pe_callB call_lenX (by rfl) T.f_len (by decide +kernel) (pa_cons (pe_propX PP.points (hr.mono (by decide)) (pv 0)) (pa_nil))) (nomark _))))) (pss_cons (ps_ret (pe_bl)) (pss_nil)) (pss_nil)) (pss_cons (ps_if (pt_not (pt_val (pe_callB (cr_all rfl) (by rfl) T.f_all (by decide +kernel) (pa_cons (pe_lc (own := [("breaker", 2)]) rfl nd (pi_tup (pv 1)) (blkOk_by (N := nm_is_wiring) (sc := defScope st_is_wiring) (own := [("breaker", 2)]) (by decide +kernel)) (fun _ _ _ _ _ => pg_name (i := 2) nd rfl (Or.inl rfl)) (fun _ _ _ _ _ => pts_nil) (fun _ _ _ _ _ => pe_or (pe_cmp (pc_isN (pv 2))) (pe_one (pe_callD D_is_number (hr.mono (by decide)) (by rfl) (pa_cons (pv 2) (pa_cons (pe_int) (pa_cons (pe_op op_sub (pe_callB (call_lenP PP.len (hr.mono (by decide))) (by rfl) T.f_len (by decide +kernel) (pa_cons (pv 0) (pa_nil))) (pe_int)) (pa_nil)))))))) (pa_nil))))) (pss_cons (ps_ret (pe_bl)) (pss_nil)) (pss_nil)) (pss_cons (ps_ret (pe_callD D_does_follow (hr.mono (by decide)) (by rfl) (pa_cons (pv 0) (pa_cons (pv 1) (pa_nil))))) (pss_nil)))
  exact h
def t_check_wiring (P : Program) (w : World) (K : PySem.W.Frag) (C : Addr) : TS := tSeq (tIfS (tNot (tB (tCall (sp_is_wiring K C) [] E0 (tCons (tVar 0) (tCons (tVar 1) (tNil)))))) (tSeq (tNever) (tNext)) (tNext)) (tNext)
theorem dv_check_wiring {P : Program} {w : World} {K : PySem.W.Frag} {mg : Str → Option Value} {base : Heap} {C : Addr} {f : Addr} {cdv : Value} {A : Around} {outer : List Env} {s : Shared} {H : Hp} {E : XK} (T : Txf mg) (D_is_wiring : FD P w K mg base 4 "is_wiring" ps_is_wiring (sp_is_wiring K C)) (hr : Room 4 (A.deeper (envOfC "check_wiring" (defScope st_check_wiring) s.heap.objs.size f cdv))) :
    PSs (cxOf CX0 P w K mg base nm_check_wiring "check_wiring" (defScope st_check_wiring) f cdv A outer s H E).nox (defBody st_check_wiring) (t_check_wiring P w K C) := by
  have nd := sc_check_wiring.nd
  have h : PSs (cxOf CX0 P w K mg base nm_check_wiring "check_wiring" (defScope st_check_wiring) f cdv A outer s H E).nox (defBody st_check_wiring) (tSeq (tIfS (tNot (tB (tCall (sp_is_wiring K C) [] E0 (tCons (tVar 0) (tCons (tVar 1) (tNil)))))) (tSeq (tNever) (tNext)) (tNext)) (tNext)) := pss_cons (ps_if (pt_not (pt_val (pe_callD D_is_wiring (hr.mono (by decide)) (by rfl) (pa_cons (pv 0) (pa_cons (pv 1) (pa_nil)))))) (pss_cons (ps_never) (pss_nil)) (pss_nil)) (pss_nil)
  exact h
def t_check_breaker (P : Program) (w : World) (K : PySem.W.Frag) (C : Addr) : TS := tSeq (tIfS (tNot (tB (tCall (sp_is_number K C) [] E0 (tCons (tVar 1) (tCons (tC (.int 0)) (tCons (tOp (rI0 fun i j => .int (i - j)) (tCB (rLenP K C) (tCons (tVar 0) (tNil))) (tC (.int 1))) (tNil))))))) (tSeq (tNever) (tNext)) (tNext)) (tNext)
theorem dv_check_breaker {P : Program} {w : World} {K : PySem.W.Frag} {mg : Str → Option Value} {base : Heap} {C : Addr} {f : Addr} {cdv : Value} {A : Around} {outer : List Env} {s : Shared} {H : Hp} {E : XK} (T : Txf mg) (D_is_number : FD P w K mg base 1 "is_number" ps_is_number (sp_is_number K C)) (PP : PlP P w K mg base C) (hr : Room 2 (A.deeper (envOfC "check_breaker" (defScope st_check_breaker) s.heap.objs.size f cdv))) :
    PSs (cxOf CX0 P w K mg base nm_check_breaker "check_breaker" (defScope st_check_breaker) f cdv A outer s H E).nox (defBody st_check_breaker) (t_check_breaker P w K C) := by
  have nd := sc_check_breaker.nd
  have h : PSs (cxOf CX0 P w K mg base nm_check_breaker "check_breaker" (defScope st_check_breaker) f cdv A outer s H E).nox (defBody st_check_breaker) (tSeq (tIfS (tNot (tB (tCall (sp_is_number K C) [] E0 (tCons (tVar 1) (tCons (tC (.int 0)) (tCons (tOp (rI0 fun i j => .int (i - j)) (tCB (rLenP K C) (tCons (tVar 0) (tNil))) (tC (.int 1))) (tNil))))))) (tSeq (tNever) (tNext)) (tNext)) (tNext)) := pss_cons (ps_if (pt_not (pt_val (pe_callD D_is_number (hr.mono (by decide)) (by rfl) (pa_cons (pv 1) (pa_cons (pe_int) (pa_cons (pe_op op_sub (pe_callB (call_lenP PP.len (hr.mono (by decide))) (by rfl) T.f_len (by decide +kernel) (pa_cons (pv 0) (pa_nil))) (pe_int)) (pa_nil))))))) (pss_cons (ps_never) (pss_nil)) (pss_nil)) (pss_nil)
  exact h
def t_all_on (P : Program) (w : World) (K : PySem.W.Frag) (C : Addr) : TS := tSeq (tRet (tCB (rTupC K) (tCons (tLc (iTup K (SlX.tPropSl C (sp_rates K C) E0 (tVar 0))) (gName 1) (tYes) (tC (.bl true)) [1]) (tNil)))) (tNext)
theorem dv_all_on {P : Program} {w : World} {K : PySem.W.Frag} {mg : Str → Option Value} {base : Heap} {C : Addr} {f : Addr} {cdv : Value} {A : Around} {outer : List Env} {s : Shared} {H : Hp} {E : XK} (T : Txf mg) (PP : PlP P w K mg base C) (hr : Room 2 (A.deeper (envOfC "all_on" (defScope st_all_on) s.heap.objs.size f cdv))) :
    PSs (cxOf CX0 P w K mg base nm_all_on "all_on" (defScope st_all_on) f cdv A outer s H E).nox (defBody st_all_on) (t_all_on P w K C) := by
  have nd := sc_all_on.nd
  have h : PSs (cxOf CX0 P w K mg base nm_all_on "all_on" (defScope st_all_on) f cdv A outer s H E).nox (defBody st_all_on) (tSeq (tRet (tCB (rTupC K) (tCons (tLc (iTup K (SlX.tPropSl C (sp_rates K C) E0 (tVar 0))) (gName 1) (tYes) (tC (.bl true)) [1]) (tNil)))) (tNext)) := pss_cons (ps_ret (pe_callTy call_tupX (by rfl) T.f_tuple (by decide +kernel) (pa_cons (pe_lc (own := [("rate", 1)]) rfl nd (pi_tup (pe_propX PP.rates (hr.mono (by decide)) (pv 0))) (blkOk_by (N := nm_all_on) (sc := defScope st_all_on) (own := [("rate", 1)]) (by decide +kernel)) (fun _ _ _ _ _ => pg_name (i := 1) nd rfl (Or.inl rfl)) (fun _ _ _ _ _ => pts_nil) (fun _ _ _ _ _ => pe_bl)) (pa_nil)))) (pss_nil)
  exact h
def t_line_up (P : Program) (w : World) (K : PySem.W.Frag) (C : Addr) : TS := tSeq (tAsg (tLst (tCons (tVar 1) (tNil))) (gName 2)) (tSeq (tWhile (tB (tNotN (tOp (rIx K) (SlX.tPropSl C (sp_above K C) E0 (tVar 0)) (tOp (rIx K) (tVar 2) (tC (.int 0)))))) (tSeq (tAsg (tLst (tCons (tOp (rIx K) (SlX.tPropSl C (sp_above K C) E0 (tVar 0)) (tOp (rIx K) (tVar 2) (tC (.int 0)))) (StX.tStar K (tVar 2) (tNil)))) (gName 2)) (tNext))) (tSeq (tRet (tCB (rTupC K) (tCons (tVar 2) (tNil)))) (tNext)))
theorem dv_line_up {P : Program} {w : World} {K : PySem.W.Frag} {mg : Str → Option Value} {base : Heap} {C : Addr} {f : Addr} {cdv : Value} {A : Around} {outer : List Env} {s : Shared} {H : Hp} {E : XK} (T : Txf mg) (PP : PlP P w K mg base C) (hr : Room 2 (A.deeper (envOfC "line_up" (defScope st_line_up) s.heap.objs.size f cdv))) :
    PSs (cxOf CX0 P w K mg base nm_line_up "line_up" (defScope st_line_up) f cdv A outer s H E).nox (defBody st_line_up) (t_line_up P w K C) := by
  have nd := sc_line_up.nd
  have h : PSs (cxOf CX0 P w K mg base nm_line_up "line_up" (defScope st_line_up) f cdv A outer s H E).nox (defBody st_line_up) (tSeq (tAsg (tLst (tCons (tVar 1) (tNil))) (gName 2)) (tSeq (tWhile (tB (tNotN (tOp (rIx K) (SlX.tPropSl C (sp_above K C) E0 (tVar 0)) (tOp (rIx K) (tVar 2) (tC (.int 0)))))) (tSeq (tAsg (tLst (tCons (tOp (rIx K) (SlX.tPropSl C (sp_above K C) E0 (tVar 0)) (tOp (rIx K) (tVar 2) (tC (.int 0)))) (StX.tStar K (tVar 2) (tNil)))) (gName 2)) (tNext))) (tSeq (tRet (tCB (rTupC K) (tCons (tVar 2) (tNil)))) (tNext)))) := pss_cons (ps_set (i := 2) nd rfl (Or.inl rfl) (pe_lst (pa_cons (pv 1) (pa_nil)))) (pss_cons (ps_while PassesOwn.never (pt_cmp (pc_notN (pe_ix ix_seq (pe_propX PP.above (hr.mono (by decide)) (pv 0)) (pe_ix ix_seq (pv 2) (pe_int) (fun _ _ => rfl)) (fun _ _ => rfl)))) (pss_cons (ps_set (i := 2) nd rfl (Or.inl rfl) (pe_lst (pa_cons (pe_ix ix_seq (pe_propX PP.above (hr.mono (by decide)) (pv 0)) (pe_ix ix_seq (pv 2) (pe_int) (fun _ _ => rfl)) (fun _ _ => rfl)) (StX.pa_star (pv 2) (pa_nil))))) (pss_nil))) (pss_cons (ps_ret (pe_callTy call_tupX (by rfl) T.f_tuple (by decide +kernel) (pa_cons (pv 2) (pa_nil)))) (pss_nil)))
  exact h
def t_has_power (P : Program) (w : World) (K : PySem.W.Frag) (C : Addr) : TS := tSeq (tRet (tAndV (tNotN (tVar 2)) (tCB (rAll K) (tCons (tLc (iTup K (tCall (sp_line_up K C) [] E0 (tCons (tVar 0) (tCons (tVar 2) (tNil))))) (gName 3) (tYes) (tOp (rIx K) (tVar 1) (tVar 3)) [3]) (tNil))))) (tNext)
theorem dv_has_power {P : Program} {w : World} {K : PySem.W.Frag} {mg : Str → Option Value} {base : Heap} {C : Addr} {f : Addr} {cdv : Value} {A : Around} {outer : List Env} {s : Shared} {H : Hp} {E : XK} (T : Txf mg) (D_line_up : FD P w K mg base 3 "line_up" ps_line_up (sp_line_up K C)) (hr : Room 3 (A.deeper (envOfC "has_power" (defScope st_has_power) s.heap.objs.size f cdv))) :
    PSs (cxOf CX0 P w K mg base nm_has_power "has_power" (defScope st_has_power) f cdv A outer s H E).nox (defBody st_has_power) (t_has_power P w K C) := by
  have nd := sc_has_power.nd
  have h : PSs (cxOf CX0 P w K mg base nm_has_power "has_power" (defScope st_has_power) f cdv A outer s H E).nox (defBody st_has_power) (tSeq (tRet (tAndV (tNotN (tVar 2)) (tCB (rAll K) (tCons (tLc (iTup K (tCall (sp_line_up K C) [] E0 (tCons (tVar 0) (tCons (tVar 2) (tNil))))) (gName 3) (tYes) (tOp (rIx K) (tVar 1) (tVar 3)) [3]) (tNil))))) (tNext)) := pss_cons (ps_ret (pe_and (pe_cmp (pc_notN (pv 2))) (pe_one (pe_callB (cr_all rfl) (by rfl) T.f_all (by decide +kernel) (pa_cons (pe_lc (own := [("one", 3)]) rfl nd (pi_tup (pe_callD D_line_up (hr.mono (by decide)) (by rfl) (pa_cons (pv 0) (pa_cons (pv 2) (pa_nil))))) (blkOk_by (N := nm_has_power) (sc := defScope st_has_power) (own := [("one", 3)]) (by decide +kernel)) (fun _ _ _ _ _ => pg_name (i := 3) nd rfl (Or.inl rfl)) (fun _ _ _ _ _ => pts_nil) (fun _ _ _ _ _ => pe_ix ix_seq (pv 1) (pv 3) (fun _ _ => rfl))) (pa_nil)))))) (pss_nil)
  exact h
def t_check_loads (P : Program) (w : World) (K : PySem.W.Frag) (C : Addr) : TS := tSeq (tAsg (tCall (sp_wrong_load K C) [] E0 (tCons (tVar 0) (tCons (tVar 1) (tNil)))) (gName 2)) (tSeq (tIfS (tB (tNotN (tVar 2))) (tSeq (tNever) (tNext)) (tNext)) (tNext))
theorem dv_check_loads {P : Program} {w : World} {K : PySem.W.Frag} {mg : Str → Option Value} {base : Heap} {C : Addr} {f : Addr} {cdv : Value} {A : Around} {outer : List Env} {s : Shared} {H : Hp} {E : XK} (T : Txf mg) (D_wrong_load : FD P w K mg base 3 "wrong_load" ps_wrong_load (sp_wrong_load K C)) (hr : Room 3 (A.deeper (envOfC "check_loads" (defScope st_check_loads) s.heap.objs.size f cdv))) :
    PSs (cxOf CX0 P w K mg base nm_check_loads "check_loads" (defScope st_check_loads) f cdv A outer s H E).nox (defBody st_check_loads) (t_check_loads P w K C) := by
  have nd := sc_check_loads.nd
  have h : PSs (cxOf CX0 P w K mg base nm_check_loads "check_loads" (defScope st_check_loads) f cdv A outer s H E).nox (defBody st_check_loads) (tSeq (tAsg (tCall (sp_wrong_load K C) [] E0 (tCons (tVar 0) (tCons (tVar 1) (tNil)))) (gName 2)) (tSeq (tIfS (tB (tNotN (tVar 2))) (tSeq (tNever) (tNext)) (tNext)) (tNext))) := pss_cons (ps_set (i := 2) nd rfl (Or.inl rfl) (pe_callD D_wrong_load (hr.mono (by decide)) (by rfl) (pa_cons (pv 0) (pa_cons (pv 1) (pa_nil))))) (pss_cons (ps_if (pt_cmp (pc_notN (pv 2))) (pss_cons (ps_never) (pss_nil)) (pss_nil)) (pss_nil))
  exact h
def t_currents_in (P : Program) (w : World) (K : PySem.W.Frag) (C : Addr) : TS := tSeq (tAsg (tLc (iTup K (SlX.tPropSl C (sp_rates K C) E0 (tVar 0))) (gName 4) (tYes) (tC (.int 0)) [4]) (gName 5)) (tSeq (tFor (RZ.iZipA K (tCons (SlX.tPropSl C (sp_names K C) E0 (tVar 0)) (tCons (tVar 1) (tNil)))) (gTup K 2 (gCons (gName 6) (gCons (gName 7) (gNil)))) (tSeq (tIfS (tB (tCall (sp_has_power K C) [] E0 (tCons (tVar 0) (tCons (tVar 2) (tCons (tVar 7) (tNil)))))) (tSeq (tFor (iTup K (tCall (sp_line_up K C) [] E0 (tCons (tVar 0) (tCons (tVar 7) (tNil))))) (gName 8) (tSeq (tAugS (tVar 5) (tVar 8) (tDGet2 (tVar 3) (tVar 6) (tC (.int 0))) (rGetL K) (ipI fun i j => i + j) rSetL) (tNext))) (tNext)) (tNext)) (tNext))) (tSeq (tRet (tCB (rTupC K) (tCons (tVar 5) (tNil)))) (tNext)))
theorem dv_currents_in {P : Program} {w : World} {K : PySem.W.Frag} {mg : Str → Option Value} {base : Heap} {C : Addr} {f : Addr} {cdv : Value} {A : Around} {outer : List Env} {s : Shared} {H : Hp} {E : XK} (T : Txf mg) (D_has_power : FD P w K mg base 4 "has_power" ps_has_power (sp_has_power K C)) (D_line_up : FD P w K mg base 3 "line_up" ps_line_up (sp_line_up K C)) (PP : PlP P w K mg base C) (hr : Room 4 (A.deeper (envOfC "currents_in" (defScope st_currents_in) s.heap.objs.size f cdv))) :
    PSs (cxOf CX0 P w K mg base nm_currents_in "currents_in" (defScope st_currents_in) f cdv A outer s H E).nox (defBody st_currents_in) (t_currents_in P w K C) := by
  have nd := sc_currents_in.nd
  have hu := hu_of hr
  have h : PSs (cxOf CX0 P w K mg base nm_currents_in "currents_in" (defScope st_currents_in) f cdv A outer s H E).nox (defBody st_currents_in) (tSeq (tAsg (tLc (iTup K (SlX.tPropSl C (sp_rates K C) E0 (tVar 0))) (gName 4) (tYes) (tC (.int 0)) [4]) (gName 5)) (tSeq (tFor (RZ.iZipA K (tCons (SlX.tPropSl C (sp_names K C) E0 (tVar 0)) (tCons (tVar 1) (tNil)))) (gTup K 2 (gCons (gName 6) (gCons (gName 7) (gNil)))) (tSeq (tIfS (tB (tCall (sp_has_power K C) [] E0 (tCons (tVar 0) (tCons (tVar 2) (tCons (tVar 7) (tNil)))))) (tSeq (tFor (iTup K (tCall (sp_line_up K C) [] E0 (tCons (tVar 0) (tCons (tVar 7) (tNil))))) (gName 8) (tSeq (tAugS (tVar 5) (tVar 8) (tDGet2 (tVar 3) (tVar 6) (tC (.int 0))) (rGetL K) (ipI fun i j => i + j) rSetL) (tNext))) (tNext)) (tNext)) (tNext))) (tSeq (tRet (tCB (rTupC K) (tCons (tVar 5) (tNil)))) (tNext)))) := pss_cons (ps_setLc (i := 5) (own := [("rate", 4)]) rfl nd rfl rfl (sw_true rfl rfl rfl (by decide +kernel)) (pi_tup (pe_propX PP.rates (hr.mono (by decide)) (pv 0))) (blkOk_by (N := nm_currents_in) (sc := defScope st_currents_in) (own := [("rate", 4)]) (by decide +kernel)) (fun _ _ _ _ _ => pg_name (i := 4) nd rfl (Or.inl rfl)) (fun _ _ _ _ _ => pts_nil) (fun _ _ _ _ _ => pe_int)) (pss_cons (ps_for PassesOwn.never rfl (RZ.pi_zipA (by rfl) T.f_zip (pa_cons (pe_propX PP.names (hr.mono (by decide)) (pv 0)) (pa_cons (pv 1) (pa_nil)))) (pg_tup rfl (pgs_cons (pg_name (i := 6) nd rfl (Or.inl rfl)) (pgs_cons (pg_name (i := 7) nd rfl (Or.inl rfl)) (pgs_nil)))) (pss_cons (ps_if (pt_val (pe_callD D_has_power (hr.mono (by decide)) (by rfl) (pa_cons (pv 0) (pa_cons (pv 2) (pa_cons (pv 7) (pa_nil)))))) (pss_cons (ps_for PassesOwn.never rfl (pi_tup (pe_callD D_line_up (hr.mono (by decide)) (by rfl) (pa_cons (pv 0) (pa_cons (pv 7) (pa_nil))))) (pg_name (i := 8) nd rfl (Or.inl rfl)) (pss_cons (ps_augS (pv 5) (pv 8) pget_list (pe_dget2 hu (pv 3) (pv 6) (pe_int) ⟨rfl, rfl, rfl, rfl⟩) ip_add set_list) (pss_nil))) (pss_nil)) (pss_nil)) (pss_nil))) (pss_cons (ps_ret (pe_callTy call_tupX (by rfl) T.f_tuple (by decide +kernel) (pa_cons (pv 5) (pa_nil)))) (pss_nil)))
  exact h
def t_is_timer (P : Program) (w : World) (K : PySem.W.Frag) (C : Addr) : TS := tSeq (tIfS (tOr (tNot (tB (tCB (rIsi K) (tCons (tVar 0) (tCons (tC (.ty "tuple")) (tNil)))))) (tOr (tTest (tOp (rNeD K) (tCB (rLen K) (tCons (tVar 0) (tNil))) (tC (.int 3)))) (tNot (tB (tCall (sp_is_number K C) [] E0 (tCons (tOp (rIx K) (tVar 0) (tC (.int 0))) (tCons (tC (.int 0)) (tCons (tOp (rI0 fun i j => .int (i - j)) (tC (.int 24)) (tC (.int 1))) (tNil))))))))) (tSeq (tRet (tC (.bl false))) (tNext)) (tNext)) (tSeq (tRet (tAndV (tCall (sp_is_number K C) [] E0 (tCons (tOp (rIx K) (tVar 0) (tC (.int 1))) (tCons (tOp (rPlus3 K) (tOp (rIx K) (tVar 0) (tC (.int 0))) (tC (.int 1))) (tCons (tC (.int 24)) (tNil))))) (tCall (sp_is_number K C) [] E0 (tCons (tOp (rIx K) (tVar 0) (tC (.int 2))) (tCons (tC (.int 1)) (tCons (tC (.int 9)) (tNil))))))) (tNext))
theorem dv_is_timer {P : Program} {w : World} {K : PySem.W.Frag} {mg : Str → Option Value} {base : Heap} {C : Addr} {f : Addr} {cdv : Value} {A : Around} {outer : List Env} {s : Shared} {H : Hp} {E : XK} (T : Txf mg) (D_is_number : FD P w K mg base 1 "is_number" ps_is_number (sp_is_number K C)) (hr : Room 1 (A.deeper (envOfC "is_timer" (defScope st_is_timer) s.heap.objs.size f cdv))) :
    PSs (cxOf CX0 P w K mg base nm_is_timer "is_timer" (defScope st_is_timer) f cdv A outer s H E).nox (defBody st_is_timer) (t_is_timer P w K C) := by
  have nd := sc_is_timer.nd
  have h : PSs (cxOf CX0 P w K mg base nm_is_timer "is_timer" (defScope st_is_timer) f cdv A outer s H E).nox (defBody st_is_timer) (tSeq (tIfS (tOr (tNot (tB (tCB (rIsi K) (tCons (tVar 0) (tCons (tC (.ty "tuple")) (tNil)))))) (tOr (tTest (tOp (rNeD K) (tCB (rLen K) (tCons (tVar 0) (tNil))) (tC (.int 3)))) (tNot (tB (tCall (sp_is_number K C) [] E0 (tCons (tOp (rIx K) (tVar 0) (tC (.int 0))) (tCons (tC (.int 0)) (tCons (tOp (rI0 fun i j => .int (i - j)) (tC (.int 24)) (tC (.int 1))) (tNil))))))))) (tSeq (tRet (tC (.bl false))) (tNext)) (tNext)) (tSeq (tRet (tAndV (tCall (sp_is_number K C) [] E0 (tCons (tOp (rIx K) (tVar 0) (tC (.int 1))) (tCons (tOp (rPlus3 K) (tOp (rIx K) (tVar 0) (tC (.int 0))) (tC (.int 1))) (tCons (tC (.int 24)) (tNil))))) (tCall (sp_is_number K C) [] E0 (tCons (tOp (rIx K) (tVar 0) (tC (.int 2))) (tCons (tC (.int 1)) (tCons (tC (.int 9)) (tNil))))))) (tNext))) := pss_cons (ps_if (PW.pt (pw_or (pt_not (pt_val (pe_callB call_isi (by rfl) T.f_isinstance (by decide +kernel) (pa_cons (pv 0) (pa_cons (pe_ty (n := "tuple") (by rfl) T.f_tuple (by decide +kernel)) (pa_nil)))))) (pw_or (pt_cmpR (op_neD hr.units) (pe_callB call_lenX (by rfl) T.f_len (by decide +kernel) (pa_cons (pv 0) (pa_nil))) (pe_int) (nomark _)) (pw_or1 (pt_not (pt_val (pe_callD D_is_number (hr.mono (by decide)) (by rfl) (pa_cons (pe_ix ix_seq (pv 0) (pe_int) (fun _ _ => rfl)) (pa_cons (pe_int) (pa_cons (pe_op op_sub (pe_gI T.i_HOURS (by rfl)) (pe_int)) (pa_nil))))))))))) (pss_cons (ps_ret (pe_bl)) (pss_nil)) (pss_nil)) (pss_cons (ps_ret (pe_and (pe_callD D_is_number (hr.mono (by decide)) (by rfl) (pa_cons (pe_ix ix_seq (pv 0) (pe_int) (fun _ _ => rfl)) (pa_cons (pe_op op_plus3 (pe_ix ix_seq (pv 0) (pe_int) (fun _ _ => rfl)) (pe_int)) (pa_cons (pe_gI T.i_HOURS (by rfl)) (pa_nil))))) (pe_one (pe_callD D_is_number (hr.mono (by decide)) (by rfl) (pa_cons (pe_ix ix_seq (pv 0) (pe_int) (fun _ _ => rfl)) (pa_cons (pe_int) (pa_cons (pe_gI T.i_MAX_EVERY (by rfl)) (pa_nil)))))))) (pss_nil))
  exact h
def t_check_count (P : Program) (w : World) (K : PySem.W.Frag) (C : Addr) : TS := tSeq (tIfS (tNot (tB (tCall (sp_is_number K C) [] E0 (tCons (tVar 0) (tCons (tC (.int 0)) (tCons (tVar 1) (tNil))))))) (tSeq (tNever) (tNext)) (tNext)) (tNext)
theorem dv_check_count {P : Program} {w : World} {K : PySem.W.Frag} {mg : Str → Option Value} {base : Heap} {C : Addr} {f : Addr} {cdv : Value} {A : Around} {outer : List Env} {s : Shared} {H : Hp} {E : XK} (T : Txf mg) (D_is_number : FD P w K mg base 1 "is_number" ps_is_number (sp_is_number K C)) (hr : Room 1 (A.deeper (envOfC "check_count" (defScope st_check_count) s.heap.objs.size f cdv))) :
    PSs (cxOf CX0 P w K mg base nm_check_count "check_count" (defScope st_check_count) f cdv A outer s H E).nox (defBody st_check_count) (t_check_count P w K C) := by
  have nd := sc_check_count.nd
  have h : PSs (cxOf CX0 P w K mg base nm_check_count "check_count" (defScope st_check_count) f cdv A outer s H E).nox (defBody st_check_count) (tSeq (tIfS (tNot (tB (tCall (sp_is_number K C) [] E0 (tCons (tVar 0) (tCons (tC (.int 0)) (tCons (tVar 1) (tNil))))))) (tSeq (tNever) (tNext)) (tNext)) (tNext)) := pss_cons (ps_if (pt_not (pt_val (pe_callD D_is_number (hr.mono (by decide)) (by rfl) (pa_cons (pv 0) (pa_cons (pe_int) (pa_cons (pv 1) (pa_nil))))))) (pss_cons (ps_never) (pss_nil)) (pss_nil)) (pss_nil)
  exact h
def t_loads_at (P : Program) (w : World) (K : PySem.W.Frag) (C : Addr) : TS := tSeq (tAsg (tDNewK) (gName 4)) (tSeq (tFor (iTup K (tVar 2)) (gName 5) (tSeq (tAsg (tDGet2 (tVar 1) (tVar 5) (tTup (tCons (tC (.int 0)) (tCons (tC (.int 24)) (tCons (tC (.int 1)) (tNil)))))) (gTup K 3 (gCons (gName 6) (gCons (gName 7) (gCons (gName 8) (gNil)))))) (tSeq (tIfS (tTest (tChain (rI0 fun i j => .bl (decide (i ≤ j))) (rI0 fun i j => .bl (decide (i < j))) (tVar 6) (tVar 3) (tVar 7))) (tSeq (sDPut (tVar 4) (tVar 5) (tDGet (tVar 0) (tVar 5))) (tNext)) (tNext)) (tNext)))) (tSeq (tRet (tVar 4)) (tNext)))
theorem dv_loads_at {P : Program} {w : World} {K : PySem.W.Frag} {mg : Str → Option Value} {base : Heap} {C : Addr} {f : Addr} {cdv : Value} {A : Around} {outer : List Env} {s : Shared} {H : Hp} {E : XK} (T : Txf mg) (hr : Room 0 (A.deeper (envOfC "loads_at" (defScope st_loads_at) s.heap.objs.size f cdv))) :
    PSs (cxOf CX0 P w K mg base nm_loads_at "loads_at" (defScope st_loads_at) f cdv A outer s H E).nox (defBody st_loads_at) (t_loads_at P w K C) := by
  have nd := sc_loads_at.nd
  have hu := hu_of hr
  have h : PSs (cxOf CX0 P w K mg base nm_loads_at "loads_at" (defScope st_loads_at) f cdv A outer s H E).nox (defBody st_loads_at) (tSeq (tAsg (tDNewK) (gName 4)) (tSeq (tFor (iTup K (tVar 2)) (gName 5) (tSeq (tAsg (tDGet2 (tVar 1) (tVar 5) (tTup (tCons (tC (.int 0)) (tCons (tC (.int 24)) (tCons (tC (.int 1)) (tNil)))))) (gTup K 3 (gCons (gName 6) (gCons (gName 7) (gCons (gName 8) (gNil)))))) (tSeq (tIfS (tTest (tChain (rI0 fun i j => .bl (decide (i ≤ j))) (rI0 fun i j => .bl (decide (i < j))) (tVar 6) (tVar 3) (tVar 7))) (tSeq (sDPut (tVar 4) (tVar 5) (tDGet (tVar 0) (tVar 5))) (tNext)) (tNext)) (tNext)))) (tSeq (tRet (tVar 4)) (tNext)))) := pss_cons (ps_set (i := 4) nd rfl (Or.inl rfl) (pe_dnewK)) (pss_cons (ps_for PassesOwn.never rfl (pi_tup (pv 2)) (pg_name (i := 5) nd rfl (Or.inl rfl)) (pss_cons (ps_asg (pe_dget2 hu (pv 1) (pv 5) (pe_tup (pa_cons (pe_int) (pa_cons (pe_gI T.i_HOURS (by rfl)) (pa_cons (pe_int) (pa_nil))))) ⟨rfl, rfl, rfl, rfl⟩) (pg_tup rfl (pgs_cons (pg_name (i := 6) nd rfl (Or.inl rfl)) (pgs_cons (pg_name (i := 7) nd rfl (Or.inl rfl)) (pgs_cons (pg_name (i := 8) nd rfl (Or.inl rfl)) (pgs_nil)))))) (pss_cons (ps_if (pt_chain op_le op_lt (pv 6) (pv 3) (pv 7)) (pss_cons (ps_dput hu (pv 4) (pv 5) (pe_dget hu (pv 0) (pv 5) (fun _ _ => rfl)) rfl) (pss_nil)) (pss_nil)) (pss_nil)))) (pss_cons (ps_ret (pv 4)) (pss_nil)))
  exact h
def t_trips_of (P : Program) (w : World) (K : PySem.W.Frag) (C : Addr) : TS := tSeq (tPar 5 6 (tCons (tCall (sp_all_on K C) [] E0 (tCons (tVar 0) (tNil))) (tCons (tLst (tNil)) tNil))) (tSeq (tFor (iRng1 (tCons (tC (.int 24)) (tNil))) (gName 7) (tSeq (tAsg (tCall (sp_trips_in K C) [] E0 (tCons (tVar 0) (tCons (tVar 1) (tCons (tVar 5) (tCons (tCall (sp_loads_at K C) [] E0 (tCons (tVar 2) (tCons (tVar 3) (tCons (tVar 4) (tCons (tVar 7) (tNil)))))) (tNil)))))) (gTup K 2 (gCons (gName 5) (gCons (gName 8) (gNil))))) (tSeq (tDrop (tBM K "list" rExtend (tVar 6) (tCons (tLc (iTup K (tVar 8)) (gName 9) (tYes) (tTup (tCons (tVar 7) (tCons (tVar 9) (tNil)))) [9]) (tNil)))) (tNext)))) (tSeq (tRet (tVar 6)) (tNext)))
theorem dv_trips_of {P : Program} {w : World} {K : PySem.W.Frag} {mg : Str → Option Value} {base : Heap} {C : Addr} {f : Addr} {cdv : Value} {A : Around} {outer : List Env} {s : Shared} {H : Hp} {E : XK} (T : Txf mg) (D_loads_at : FD P w K mg base 1 "loads_at" ps_loads_at (sp_loads_at K C)) (D_trips_in : FD P w K mg base 6 "trips_in" ps_trips_in (sp_trips_in K C)) (D_all_on : FD P w K mg base 3 "all_on" ps_all_on (sp_all_on K C)) (hr : Room 6 (A.deeper (envOfC "trips_of" (defScope st_trips_of) s.heap.objs.size f cdv))) :
    PSs (cxOf CX0 P w K mg base nm_trips_of "trips_of" (defScope st_trips_of) f cdv A outer s H E).nox (defBody st_trips_of) (t_trips_of P w K C) := by
  have nd := sc_trips_of.nd
  have h : PSs (cxOf CX0 P w K mg base nm_trips_of "trips_of" (defScope st_trips_of) f cdv A outer s H E).nox (defBody st_trips_of) (tSeq (tPar 5 6 (tCons (tCall (sp_all_on K C) [] E0 (tCons (tVar 0) (tNil))) (tCons (tLst (tNil)) tNil))) (tSeq (tFor (iRng1 (tCons (tC (.int 24)) (tNil))) (gName 7) (tSeq (tAsg (tCall (sp_trips_in K C) [] E0 (tCons (tVar 0) (tCons (tVar 1) (tCons (tVar 5) (tCons (tCall (sp_loads_at K C) [] E0 (tCons (tVar 2) (tCons (tVar 3) (tCons (tVar 4) (tCons (tVar 7) (tNil)))))) (tNil)))))) (gTup K 2 (gCons (gName 5) (gCons (gName 8) (gNil))))) (tSeq (tDrop (tBM K "list" rExtend (tVar 6) (tCons (tLc (iTup K (tVar 8)) (gName 9) (tYes) (tTup (tCons (tVar 7) (tCons (tVar 9) (tNil)))) [9]) (tNil)))) (tNext)))) (tSeq (tRet (tVar 6)) (tNext)))) := pss_cons (ps_par (i := 5) (j := 6) rfl nd rfl rfl (by decide) rfl rfl (pa_cons (pe_callD D_all_on (hr.mono (by decide)) (by rfl) (pa_cons (pv 0) (pa_nil))) (pa_cons (pe_lst (pa_nil)) pa_nil)) (by rfl)) (pss_cons (ps_for PassesOwn.never rfl (pi_range1 (by rfl) T.f_range (pa_cons (pe_gI T.i_HOURS (by rfl)) (pa_nil))) (pg_name (i := 7) nd rfl (Or.inr rfl)) (pss_cons (ps_asg (pe_callD D_trips_in (hr.mono (by decide)) (by rfl) (pa_cons (pv 0) (pa_cons (pv 1) (pa_cons (pv 5) (pa_cons (pe_callD D_loads_at (hr.mono (by decide)) (by rfl) (pa_cons (pv 2) (pa_cons (pv 3) (pa_cons (pv 4) (pa_cons (pv 7) (pa_nil)))))) (pa_nil)))))) (pg_tup rfl (pgs_cons (pg_name (i := 5) nd rfl (Or.inl rfl)) (pgs_cons (pg_name (i := 8) nd rfl (Or.inl rfl)) (pgs_nil))))) (pss_cons (ps_expr (pe_bm PySem.F.plainAttrs_list PySem.F.slot_list_extend PySem.F.type_list_extend mt_extend (pv 6) (pa_cons (pe_lc (own := [("breaker", 9)]) rfl nd (pi_tup (pv 8)) (blkOk_by (N := nm_trips_of) (sc := defScope st_trips_of) (own := [("breaker", 9)]) (by decide +kernel)) (fun _ _ _ _ _ => pg_name (i := 9) nd rfl (Or.inl rfl)) (fun _ _ _ _ _ => pts_nil) (fun _ _ _ _ _ => pe_tup (pa_cons (pv 7) (pa_cons (pv 9) (pa_nil))))) (pa_nil)))) (pss_nil)))) (pss_cons (ps_ret (pv 6)) (pss_nil)))
  exact h
def t_day (P : Program) (w : World) (K : PySem.W.Frag) (C : Addr) : TS := tSeq (tDrop (tCall (sp_check_timed K C) [] E0 (tCons (tVar 0) (tCons (tVar 1) (tCons (tVar 2) (tCons (tVar 3) (tNil))))))) (tSeq (tDrop (tCall (sp_check_count K C) [] E0 (tCons (tVar 4) (tCons (tC (.int 1000000000000000000)) (tNil))))) (tSeq (tRet (tCall (sp_trips_of K C) [] E0 (tCons (tVar 0) (tCons (tVar 1) (tCons (tVar 2) (tCons (tVar 3) (tCons (tCall (sp_names_on K C) [] E0 (tCons (tVar 2) (tCons (tVar 3) (tCons (tVar 4) (tNil))))) (tNil)))))))) (tNext)))
theorem dv_day {P : Program} {w : World} {K : PySem.W.Frag} {mg : Str → Option Value} {base : Heap} {C : Addr} {f : Addr} {cdv : Value} {A : Around} {outer : List Env} {s : Shared} {H : Hp} {E : XK} (T : Txf mg) (D_names_on : FD P w K mg base 1 "names_on" ps_names_on (sp_names_on K C)) (D_trips_of : FD P w K mg base 7 "trips_of" ps_trips_of (sp_trips_of K C)) (D_check_count : FD P w K mg base 2 "check_count" ps_check_count (sp_check_count K C)) (D_check_timed : FD P w K mg base 6 "check_timed" ps_check_timed (sp_check_timed K C)) (hr : Room 7 (A.deeper (envOfC "day" (defScope st_day) s.heap.objs.size f cdv))) :
    PSs (cxOf CX0 P w K mg base nm_day "day" (defScope st_day) f cdv A outer s H E).nox (defBody st_day) (t_day P w K C) := by
  have nd := sc_day.nd
  have h : PSs (cxOf CX0 P w K mg base nm_day "day" (defScope st_day) f cdv A outer s H E).nox (defBody st_day) (tSeq (tDrop (tCall (sp_check_timed K C) [] E0 (tCons (tVar 0) (tCons (tVar 1) (tCons (tVar 2) (tCons (tVar 3) (tNil))))))) (tSeq (tDrop (tCall (sp_check_count K C) [] E0 (tCons (tVar 4) (tCons (tC (.int 1000000000000000000)) (tNil))))) (tSeq (tRet (tCall (sp_trips_of K C) [] E0 (tCons (tVar 0) (tCons (tVar 1) (tCons (tVar 2) (tCons (tVar 3) (tCons (tCall (sp_names_on K C) [] E0 (tCons (tVar 2) (tCons (tVar 3) (tCons (tVar 4) (tNil))))) (tNil)))))))) (tNext)))) := pss_cons (ps_expr (pe_callD D_check_timed (hr.mono (by decide)) (by rfl) (pa_cons (pv 0) (pa_cons (pv 1) (pa_cons (pv 2) (pa_cons (pv 3) (pa_nil))))))) (pss_cons (ps_expr (pe_callD D_check_count (hr.mono (by decide)) (by rfl) (pa_cons (pv 4) (pa_cons (pe_gI T.i_MAX_COUNT (by rfl)) (pa_nil))))) (pss_cons (ps_ret (pe_callD D_trips_of (hr.mono (by decide)) (by rfl) (pa_cons (pv 0) (pa_cons (pv 1) (pa_cons (pv 2) (pa_cons (pv 3) (pa_cons (pe_callD D_names_on (hr.mono (by decide)) (by rfl) (pa_cons (pv 2) (pa_cons (pv 3) (pa_cons (pv 4) (pa_nil))))) (pa_nil)))))))) (pss_nil)))
  exact h
def t_length_of (P : Program) (w : World) (K : PySem.W.Frag) (C : Addr) : TS := tSeq (tAsg (tC (.int 1)) (gName 1)) (tSeq (tLock (tFor (iVals (tVar 0)) (gTup K 3 (gCons (gName 2) (gCons (gName 3) (gCons (gName 4) (gNil))))) (tSeq (tAsg (tVar 1) (gName 5)) (tSeq (tWhile (tTest (tOp (rNeD K) (tOp (rI (fun _ j => 0 < j) fun i j => .int (i % j)) (tCB (rInt1) (tCons (tVar 1) (tNil))) (tVar 4)) (tC (.int 0)))) (tSeq (tAug 1 (tVar 5) (ipI fun i j => i + j)) (tNext))) (tNext))))) (tSeq (tRet (tVar 1)) (tNext)))
theorem dv_length_of {P : Program} {w : World} {K : PySem.W.Frag} {mg : Str → Option Value} {base : Heap} {C : Addr} {f : Addr} {cdv : Value} {A : Around} {outer : List Env} {s : Shared} {H : Hp} {E : XK} (T : Txf mg) (hr : Room 0 (A.deeper (envOfC "length_of" (defScope st_length_of) s.heap.objs.size f cdv))) :
    PSs (cxOf CX0 P w K mg base nm_length_of "length_of" (defScope st_length_of) f cdv A outer s H E).nox (defBody st_length_of) (t_length_of P w K C) := by
  have nd := sc_length_of.nd
  have h : PSs (cxOf CX0 P w K mg base nm_length_of "length_of" (defScope st_length_of) f cdv A outer s H E).nox (defBody st_length_of) (tSeq (tAsg (tC (.int 1)) (gName 1)) (tSeq (tLock (tFor (iVals (tVar 0)) (gTup K 3 (gCons (gName 2) (gCons (gName 3) (gCons (gName 4) (gNil))))) (tSeq (tAsg (tVar 1) (gName 5)) (tSeq (tWhile (tTest (tOp (rNeD K) (tOp (rI (fun _ j => 0 < j) fun i j => .int (i % j)) (tCB (rInt1) (tCons (tVar 1) (tNil))) (tVar 4)) (tC (.int 0)))) (tSeq (tAug 1 (tVar 5) (ipI fun i j => i + j)) (tNext))) (tNext))))) (tSeq (tRet (tVar 1)) (tNext)))) := pss_cons (ps_set (i := 1) nd rfl (Or.inl rfl) (pe_int)) (pss_cons (ps_lock (ps_for PassesOwn.never rfl (pi_values (pv 0)) (pg_tup rfl (pgs_cons (pg_name (i := 2) nd rfl (Or.inl rfl)) (pgs_cons (pg_name (i := 3) nd rfl (Or.inl rfl)) (pgs_cons (pg_name (i := 4) nd rfl (Or.inl rfl)) (pgs_nil))))) (pss_cons (ps_set (i := 5) nd rfl (Or.inl rfl) (pv 1)) (pss_cons (ps_while PassesOwn.never (pt_cmpR (op_neD hr.units) (pe_op op_mod (pe_callTy call_intX (by rfl) T.f_int (by decide +kernel) (pa_cons (pv 1) (pa_nil))) (pv 4)) (pe_int) (nomark _)) (pss_cons (ps_aug (i := 1) nd rfl (Or.inl rfl) (pv 5) ip_add) (pss_nil))) (pss_nil))))) (pss_cons (ps_ret (pv 1)) (pss_nil)))
  exact h
def t_day_rows (P : Program) (w : World) (K : PySem.W.Frag) (C : Addr) : TS := tSeq (tPar 4 5 (tCons (tDNewT) (tCons (tLst (tNil)) tNil))) (tSeq (tFor (iRng1 (tCons (tCall (sp_length_of K C) [] E0 (tCons (tVar 3) (tNil))) (tNil))) (gName 6) (tSeq (tAsg (tCall (sp_names_on K C) [] E0 (tCons (tVar 2) (tCons (tVar 3) (tCons (tVar 6) (tNil))))) (gName 7)) (tSeq (tIfS (tB (tDNotIn (tVar 7) (tVar 4))) (tSeq (sDPut (tVar 4) (tVar 7) (tLc (iList K (tCall (sp_trips_of K C) [] E0 (tCons (tVar 0) (tCons (tVar 1) (tCons (tVar 2) (tCons (tVar 3) (tCons (tVar 7) (tNil)))))))) (gTup K 2 (gCons (gName 8) (gCons (gName 9) (gNil)))) (tYes) (tVar 9) [8, 9])) (tNext)) (tNext)) (tSeq (tDrop (tBM K "list" rAppend (tVar 5) (tCons (tDGet (tVar 4) (tVar 7)) (tNil)))) (tNext))))) (tSeq (tRet (tVar 5)) (tNext)))
theorem dv_day_rows {P : Program} {w : World} {K : PySem.W.Frag} {mg : Str → Option Value} {base : Heap} {C : Addr} {f : Addr} {cdv : Value} {A : Around} {outer : List Env} {s : Shared} {H : Hp} {E : XK} (T : Txf mg) (D_length_of : FD P w K mg base 1 "length_of" ps_length_of (sp_length_of K C)) (D_trips_of : FD P w K mg base 7 "trips_of" ps_trips_of (sp_trips_of K C)) (D_names_on : FD P w K mg base 1 "names_on" ps_names_on (sp_names_on K C)) (hr : Room 7 (A.deeper (envOfC "day_rows" (defScope st_day_rows) s.heap.objs.size f cdv))) :
    PSs (cxOf CX0 P w K mg base nm_day_rows "day_rows" (defScope st_day_rows) f cdv A outer s H E).nox (defBody st_day_rows) (t_day_rows P w K C) := by
  have nd := sc_day_rows.nd
  have hu := hu_of hr
  have h : PSs (cxOf CX0 P w K mg base nm_day_rows "day_rows" (defScope st_day_rows) f cdv A outer s H E).nox (defBody st_day_rows) (tSeq (tPar 4 5 (tCons (tDNewT) (tCons (tLst (tNil)) tNil))) (tSeq (tFor (iRng1 (tCons (tCall (sp_length_of K C) [] E0 (tCons (tVar 3) (tNil))) (tNil))) (gName 6) (tSeq (tAsg (tCall (sp_names_on K C) [] E0 (tCons (tVar 2) (tCons (tVar 3) (tCons (tVar 6) (tNil))))) (gName 7)) (tSeq (tIfS (tB (tDNotIn (tVar 7) (tVar 4))) (tSeq (sDPut (tVar 4) (tVar 7) (tLc (iList K (tCall (sp_trips_of K C) [] E0 (tCons (tVar 0) (tCons (tVar 1) (tCons (tVar 2) (tCons (tVar 3) (tCons (tVar 7) (tNil)))))))) (gTup K 2 (gCons (gName 8) (gCons (gName 9) (gNil)))) (tYes) (tVar 9) [8, 9])) (tNext)) (tNext)) (tSeq (tDrop (tBM K "list" rAppend (tVar 5) (tCons (tDGet (tVar 4) (tVar 7)) (tNil)))) (tNext))))) (tSeq (tRet (tVar 5)) (tNext)))) := pss_cons (ps_par (i := 4) (j := 5) rfl nd rfl rfl (by decide) rfl rfl (pa_cons (pe_dnewT) (pa_cons (pe_lst (pa_nil)) pa_nil)) (by rfl)) (pss_cons (ps_for PassesOwn.never rfl (pi_range1 (by rfl) T.f_range (pa_cons (pe_callD D_length_of (hr.mono (by decide)) (by rfl) (pa_cons (pv 3) (pa_nil))) (pa_nil))) (pg_name (i := 6) nd rfl (Or.inl rfl)) (pss_cons (ps_set (i := 7) nd rfl (Or.inl rfl) (pe_callD D_names_on (hr.mono (by decide)) (by rfl) (pa_cons (pv 2) (pa_cons (pv 3) (pa_cons (pv 6) (pa_nil)))))) (pss_cons (ps_if (pt_cmp (pc_dnotin hu (pv 7) (pv 4)) (by rfl)) (pss_cons (ps_dput hu (pv 4) (pv 7) (pe_lc (own := [("hour", 8), ("breaker", 9)]) rfl nd (pi_list (pe_callD D_trips_of (hr.mono (by decide)) (by rfl) (pa_cons (pv 0) (pa_cons (pv 1) (pa_cons (pv 2) (pa_cons (pv 3) (pa_cons (pv 7) (pa_nil)))))))) (blkOk_by (N := nm_day_rows) (sc := defScope st_day_rows) (own := [("hour", 8), ("breaker", 9)]) (by decide +kernel)) (fun _ _ _ _ _ => pg_tup rfl (pgs_cons (pg_name (i := 8) nd rfl (Or.inl rfl)) (pgs_cons (pg_name (i := 9) nd rfl (Or.inl rfl)) (pgs_nil)))) (fun _ _ _ _ _ => pts_nil) (fun _ _ _ _ _ => pv 9)) rfl) (pss_nil)) (pss_nil)) (pss_cons (ps_expr (pe_bm PySem.F.plainAttrs_list PySem.F.slot_list_append PySem.F.type_list_append mt_append (pv 5) (pa_cons (pe_dget hu (pv 4) (pv 7) (fun _ _ => rfl)) (pa_nil)))) (pss_nil))))) (pss_cons (ps_ret (pv 5)) (pss_nil)))
  exact h
def t_first_day (P : Program) (w : World) (K : PySem.W.Frag) (C : Addr) : TS := tSeq (tDrop (tCall (sp_check_timed K C) [] E0 (tCons (tVar 0) (tCons (tVar 1) (tCons (tVar 2) (tCons (tVar 3) (tNil))))))) (tSeq (tDrop (tCall (sp_check_breaker K C) [] E0 (tCons (tVar 0) (tCons (tVar 4) (tNil))))) (tSeq (tFor (iEnum K (tCons (tCall (sp_day_rows K C) [] E0 (tCons (tVar 0) (tCons (tVar 1) (tCons (tVar 2) (tCons (tVar 3) (tNil)))))) (tNil))) (gTup K 2 (gCons (gName 5) (gCons (gName 6) (gNil)))) (tSeq (tIfS (tTest (tOp (rIn K false) (tVar 4) (tVar 6))) (tSeq (tRet (tVar 5)) (tNext)) (tNext)) (tNext))) (tSeq (tRet (tC .non)) (tNext))))
theorem dv_first_day {P : Program} {w : World} {K : PySem.W.Frag} {mg : Str → Option Value} {base : Heap} {C : Addr} {f : Addr} {cdv : Value} {A : Around} {outer : List Env} {s : Shared} {H : Hp} {E : XK} (T : Txf mg) (D_day_rows : FD P w K mg base 8 "day_rows" ps_day_rows (sp_day_rows K C)) (D_check_breaker : FD P w K mg base 3 "check_breaker" ps_check_breaker (sp_check_breaker K C)) (D_check_timed : FD P w K mg base 6 "check_timed" ps_check_timed (sp_check_timed K C)) (hr : Room 8 (A.deeper (envOfC "first_day" (defScope st_first_day) s.heap.objs.size f cdv))) :
    PSs (cxOf CX0 P w K mg base nm_first_day "first_day" (defScope st_first_day) f cdv A outer s H E).nox (defBody st_first_day) (t_first_day P w K C) := by
  have nd := sc_first_day.nd
  have h : PSs (cxOf CX0 P w K mg base nm_first_day "first_day" (defScope st_first_day) f cdv A outer s H E).nox (defBody st_first_day) (tSeq (tDrop (tCall (sp_check_timed K C) [] E0 (tCons (tVar 0) (tCons (tVar 1) (tCons (tVar 2) (tCons (tVar 3) (tNil))))))) (tSeq (tDrop (tCall (sp_check_breaker K C) [] E0 (tCons (tVar 0) (tCons (tVar 4) (tNil))))) (tSeq (tFor (iEnum K (tCons (tCall (sp_day_rows K C) [] E0 (tCons (tVar 0) (tCons (tVar 1) (tCons (tVar 2) (tCons (tVar 3) (tNil)))))) (tNil))) (gTup K 2 (gCons (gName 5) (gCons (gName 6) (gNil)))) (tSeq (tIfS (tTest (tOp (rIn K false) (tVar 4) (tVar 6))) (tSeq (tRet (tVar 5)) (tNext)) (tNext)) (tNext))) (tSeq (tRet (tC .non)) (tNext))))) := pss_cons (ps_expr (pe_callD D_check_timed (hr.mono (by decide)) (by rfl) (pa_cons (pv 0) (pa_cons (pv 1) (pa_cons (pv 2) (pa_cons (pv 3) (pa_nil))))))) (pss_cons (ps_expr (pe_callD D_check_breaker (hr.mono (by decide)) (by rfl) (pa_cons (pv 0) (pa_cons (pv 4) (pa_nil))))) (pss_cons (ps_for PassesOwn.never rfl (pi_enum (by rfl) T.f_enumerate (pa_cons (pe_callD D_day_rows (hr.mono (by decide)) (by rfl) (pa_cons (pv 0) (pa_cons (pv 1) (pa_cons (pv 2) (pa_cons (pv 3) (pa_nil)))))) (pa_nil))) (pg_tup rfl (pgs_cons (pg_name (i := 5) nd rfl (Or.inl rfl)) (pgs_cons (pg_name (i := 6) nd rfl (Or.inl rfl)) (pgs_nil)))) (pss_cons (ps_if (pt_cmpR op_in_seq (pv 4) (pv 6) (by rfl)) (pss_cons (ps_ret (pv 5)) (pss_nil)) (pss_nil)) (pss_nil))) (pss_cons (ps_ret (pe_non)) (pss_nil))))
  exact h
def t_does_run (P : Program) (w : World) (K : PySem.W.Frag) (C : Addr) : TS := tSeq (tRet (tOp (rEqD K) (tOp (rIx K) (tCall (sp_trips_in K C) [] E0 (tCons (tVar 0) (tCons (tVar 1) (tCons (tCall (sp_all_on K C) [] E0 (tCons (tVar 0) (tNil))) (tCons (tVar 2) (tNil)))))) (tC (.int 1))) (tTup (tNil)))) (tNext)
theorem dv_does_run {P : Program} {w : World} {K : PySem.W.Frag} {mg : Str → Option Value} {base : Heap} {C : Addr} {f : Addr} {cdv : Value} {A : Around} {outer : List Env} {s : Shared} {H : Hp} {E : XK} (T : Txf mg) (D_all_on : FD P w K mg base 3 "all_on" ps_all_on (sp_all_on K C)) (D_trips_in : FD P w K mg base 6 "trips_in" ps_trips_in (sp_trips_in K C)) (hr : Room 6 (A.deeper (envOfC "does_run" (defScope st_does_run) s.heap.objs.size f cdv))) :
    PSs (cxOf CX0 P w K mg base nm_does_run "does_run" (defScope st_does_run) f cdv A outer s H E).nox (defBody st_does_run) (t_does_run P w K C) := by
  have nd := sc_does_run.nd
  have h : PSs (cxOf CX0 P w K mg base nm_does_run "does_run" (defScope st_does_run) f cdv A outer s H E).nox (defBody st_does_run) (tSeq (tRet (tOp (rEqD K) (tOp (rIx K) (tCall (sp_trips_in K C) [] E0 (tCons (tVar 0) (tCons (tVar 1) (tCons (tCall (sp_all_on K C) [] E0 (tCons (tVar 0) (tNil))) (tCons (tVar 2) (tNil)))))) (tC (.int 1))) (tTup (tNil)))) (tNext)) := pss_cons (ps_ret (pe_cmpR (op_eqD hr.units) (pe_ix ix_seq (pe_callD D_trips_in (hr.mono (by decide)) (by rfl) (pa_cons (pv 0) (pa_cons (pv 1) (pa_cons (pe_callD D_all_on (hr.mono (by decide)) (by rfl) (pa_cons (pv 0) (pa_nil))) (pa_cons (pv 2) (pa_nil)))))) (pe_int) (fun _ _ => rfl)) (pe_tup (pa_nil)) (nomark _))) (pss_nil)
  exact h
end Bf
set_option Elab.async false
set_option linter.all false
set_option maxRecDepth 100000
set_option maxHeartbeats 4000000
/-! The derivations of the defs' readings. Printed by mkdv.py. -/
namespace Bf
open PySem PyProof.Rows L2
def t__law_taken (P : Program) (w : World) (K : PySem.W.Frag) (C : Addr) : TS := tSeq (tIfS (tTest (tOp (rI0 fun i j => .bl (decide (j < i))) (tOp (rIx K) (tVar 0) (tC (.int 3))) (tC (.int 0)))) (tSeq (tAsg (tOp (rI (fun _ j => 0 < j) fun i j => .int (i % j)) (tCB (rInt1) (tCons (tOp (rIx K) (tVar 0) (tC (.int 3))) (tNil))) (tVar 1)) (gName 2)) (tSeq (tAsg (tOp (rI CDiv fun i j => .int (i / j)) (tOp (rIx K) (tVar 0) (tC (.int 3))) (tVar 1)) (gSub (tVar 0) (tC (.int 3)) rSetL)) (tSeq (tRet (tVar 2)) (tNext)))) (tNext)) (tSeq (tAsg (tOp (rPlus3 K) (tOp (rIx K) (tVar 0) (tC (.int 1))) (tC (.int 1))) (gSub (tVar 0) (tC (.int 1)) rSetL)) (tSeq (tIfS (tTest (tOp (rI0 fun i j => .bl (decide (j < i))) (tOp (rIx K) (tVar 0) (tC (.int 1))) (tCB (rLen K) (tCons (tOp (rIx K) (tVar 0) (tC (.int 0))) (tNil))))) (tSeq (tAsg (tOp (rI (fun _ j => 0 < j) fun i j => .int (i % j)) (tCB (rInt1) (tCons (tOp (rPlus3 K) (tOp (rI CMul fun i j => .int (i * j)) (tOp (rIx K) (tVar 0) (tC (.int 2))) (tC (.int 48271))) (tC (.int 11))) (tNil))) (tC (.int 2147483647))) (gSub (tVar 0) (tC (.int 2)) rSetL)) (tSeq (tRet (tOp (rI (fun _ j => 0 < j) fun i j => .int (i % j)) (tCB (rInt1) (tCons (tOp (rI CDiv fun i j => .int (i / j)) (tOp (rIx K) (tVar 0) (tC (.int 2))) (tC (.int 7))) (tNil))) (tVar 1))) (tNext))) (tNext)) (tSeq (tAsg (tOp (rIx K) (tOp (rIx K) (tVar 0) (tC (.int 0))) (tOp (rI0 fun i j => .int (i - j)) (tOp (rIx K) (tVar 0) (tC (.int 1))) (tC (.int 1)))) (gName 3)) (tSeq (tAsg (tOp (rI (fun _ j => 0 < j) fun i j => .int (i % j)) (tCB (rInt1) (tCons (tOp (rPlus3 K) (tOp (rPlus3 K) (tOp (rI CMul fun i j => .int (i * j)) (tOp (rIx K) (tVar 0) (tC (.int 2))) (tC (.int 48271))) (tVar 3)) (tC (.int 11))) (tNil))) (tC (.int 2147483647))) (gSub (tVar 0) (tC (.int 2)) rSetL)) (tSeq (tAsg (tIf (tTest (tOp (rI0 fun i j => .bl (decide (j ≤ i))) (tVar 3) (tOp (rI CPow fun i j => .int (i ^ j.toNat)) (tC (.int 10)) (tC (.int 18))))) (tOp (rI CDiv fun i j => .int (i / j)) (tVar 3) (tVar 1)) (tC (.int 0))) (gSub (tVar 0) (tC (.int 3)) rSetL)) (tSeq (tRet (tOp (rI (fun _ j => 0 < j) fun i j => .int (i % j)) (tCB (rInt1) (tCons (tVar 3) (tNil))) (tVar 1))) (tNext)))))))
theorem dv__law_taken {P : Program} {w : World} {K : PySem.W.Frag} {mg : Str → Option Value} {base : Heap} {C : Addr} {f : Addr} {cdv : Value} {A : Around} {outer : List Env} {s : Shared} {H : Hp} {E : XK} (T : Txf mg) (hr : Room 0 (A.deeper (envOfC "_law_taken" (defScope st__law_taken) s.heap.objs.size f cdv))) :
    PSs (cxOf CX0 P w K mg base nm__law_taken "_law_taken" (defScope st__law_taken) f cdv A outer s H E).nox (defBody st__law_taken) (t__law_taken P w K C) := by
  have nd := sc__law_taken.nd
  have h : PSs (cxOf CX0 P w K mg base nm__law_taken "_law_taken" (defScope st__law_taken) f cdv A outer s H E).nox (defBody st__law_taken) (tSeq (tIfS (tTest (tOp (rI0 fun i j => .bl (decide (j < i))) (tOp (rIx K) (tVar 0) (tC (.int 3))) (tC (.int 0)))) (tSeq (tAsg (tOp (rI (fun _ j => 0 < j) fun i j => .int (i % j)) (tCB (rInt1) (tCons (tOp (rIx K) (tVar 0) (tC (.int 3))) (tNil))) (tVar 1)) (gName 2)) (tSeq (tAsg (tOp (rI CDiv fun i j => .int (i / j)) (tOp (rIx K) (tVar 0) (tC (.int 3))) (tVar 1)) (gSub (tVar 0) (tC (.int 3)) rSetL)) (tSeq (tRet (tVar 2)) (tNext)))) (tNext)) (tSeq (tAsg (tOp (rPlus3 K) (tOp (rIx K) (tVar 0) (tC (.int 1))) (tC (.int 1))) (gSub (tVar 0) (tC (.int 1)) rSetL)) (tSeq (tIfS (tTest (tOp (rI0 fun i j => .bl (decide (j < i))) (tOp (rIx K) (tVar 0) (tC (.int 1))) (tCB (rLen K) (tCons (tOp (rIx K) (tVar 0) (tC (.int 0))) (tNil))))) (tSeq (tAsg (tOp (rI (fun _ j => 0 < j) fun i j => .int (i % j)) (tCB (rInt1) (tCons (tOp (rPlus3 K) (tOp (rI CMul fun i j => .int (i * j)) (tOp (rIx K) (tVar 0) (tC (.int 2))) (tC (.int 48271))) (tC (.int 11))) (tNil))) (tC (.int 2147483647))) (gSub (tVar 0) (tC (.int 2)) rSetL)) (tSeq (tRet (tOp (rI (fun _ j => 0 < j) fun i j => .int (i % j)) (tCB (rInt1) (tCons (tOp (rI CDiv fun i j => .int (i / j)) (tOp (rIx K) (tVar 0) (tC (.int 2))) (tC (.int 7))) (tNil))) (tVar 1))) (tNext))) (tNext)) (tSeq (tAsg (tOp (rIx K) (tOp (rIx K) (tVar 0) (tC (.int 0))) (tOp (rI0 fun i j => .int (i - j)) (tOp (rIx K) (tVar 0) (tC (.int 1))) (tC (.int 1)))) (gName 3)) (tSeq (tAsg (tOp (rI (fun _ j => 0 < j) fun i j => .int (i % j)) (tCB (rInt1) (tCons (tOp (rPlus3 K) (tOp (rPlus3 K) (tOp (rI CMul fun i j => .int (i * j)) (tOp (rIx K) (tVar 0) (tC (.int 2))) (tC (.int 48271))) (tVar 3)) (tC (.int 11))) (tNil))) (tC (.int 2147483647))) (gSub (tVar 0) (tC (.int 2)) rSetL)) (tSeq (tAsg (tIf (tTest (tOp (rI0 fun i j => .bl (decide (j ≤ i))) (tVar 3) (tOp (rI CPow fun i j => .int (i ^ j.toNat)) (tC (.int 10)) (tC (.int 18))))) (tOp (rI CDiv fun i j => .int (i / j)) (tVar 3) (tVar 1)) (tC (.int 0))) (gSub (tVar 0) (tC (.int 3)) rSetL)) (tSeq (tRet (tOp (rI (fun _ j => 0 < j) fun i j => .int (i % j)) (tCB (rInt1) (tCons (tVar 3) (tNil))) (tVar 1))) (tNext)))))))) := pss_cons (ps_if (pt_cmpR op_gt (pe_ix ix_seq (pv 0) (pe_int) (fun _ _ => rfl)) (pe_int) (nomark _)) (pss_cons (ps_set (i := 2) nd rfl (Or.inl rfl) (pe_op op_mod (pe_callTy call_intX (by rfl) T.f_int (by decide +kernel) (pa_cons (pe_ix ix_seq (pv 0) (pe_int) (fun _ _ => rfl)) (pa_nil))) (pv 1))) (pss_cons (ps_asg (pe_op op_fdiv (pe_ix ix_seq (pv 0) (pe_int) (fun _ _ => rfl)) (pv 1)) (pg_sub (pv 0) (pe_int) set_list)) (pss_cons (ps_ret (pv 2)) (pss_nil)))) (pss_nil)) (pss_cons (ps_asg (pe_op op_plus3 (pe_ix ix_seq (pv 0) (pe_int) (fun _ _ => rfl)) (pe_int)) (pg_sub (pv 0) (pe_int) set_list)) (pss_cons (ps_if (pt_cmpR op_gt (pe_ix ix_seq (pv 0) (pe_int) (fun _ _ => rfl)) (pe_callB call_lenX (by rfl) T.f_len (by decide +kernel) (pa_cons (pe_ix ix_seq (pv 0) (pe_int) (fun _ _ => rfl)) (pa_nil))) (nomark _)) (pss_cons (ps_asg (pe_op op_mod (pe_callTy call_intX (by rfl) T.f_int (by decide +kernel) (pa_cons (pe_op op_plus3 (pe_op op_mul (pe_ix ix_seq (pv 0) (pe_int) (fun _ _ => rfl)) (pe_int)) (pe_int)) (pa_nil))) (pe_int)) (pg_sub (pv 0) (pe_int) set_list)) (pss_cons (ps_ret (pe_op op_mod (pe_callTy call_intX (by rfl) T.f_int (by decide +kernel) (pa_cons (pe_op op_fdiv (pe_ix ix_seq (pv 0) (pe_int) (fun _ _ => rfl)) (pe_int)) (pa_nil))) (pv 1))) (pss_nil))) (pss_nil)) (pss_cons (ps_set (i := 3) nd rfl (Or.inl rfl) (pe_ix ix_seq (pe_ix ix_seq (pv 0) (pe_int) (fun _ _ => rfl)) (pe_op op_sub (pe_ix ix_seq (pv 0) (pe_int) (fun _ _ => rfl)) (pe_int)) (fun _ _ => rfl))) (pss_cons (ps_asg (pe_op op_mod (pe_callTy call_intX (by rfl) T.f_int (by decide +kernel) (pa_cons (pe_op op_plus3 (pe_op op_plus3 (pe_op op_mul (pe_ix ix_seq (pv 0) (pe_int) (fun _ _ => rfl)) (pe_int)) (pv 3)) (pe_int)) (pa_nil))) (pe_int)) (pg_sub (pv 0) (pe_int) set_list)) (pss_cons (ps_asg (pe_ifExp (pt_cmpR op_ge (pv 3) (pe_op op_pow (pe_int) (pe_int)) (nomark _)) (pe_op op_fdiv (pv 3) (pv 1)) (pe_int)) (pg_sub (pv 0) (pe_int) set_list)) (pss_cons (ps_ret (pe_op op_mod (pe_callTy call_intX (by rfl) T.f_int (by decide +kernel) (pa_cons (pv 3) (pa_nil))) (pv 1))) (pss_nil)))))))
  exact h
def t__law_pick (P : Program) (w : World) (K : PySem.W.Frag) (C : Addr) : TS := tSeq (tRet (tOp (rIx K) (tVar 1) (tCall (sp__law_taken K C) [] E0 (tCons (tVar 0) (tCons (tCB (rLen K) (tCons (tVar 1) (tNil))) (tNil)))))) (tNext)
theorem dv__law_pick {P : Program} {w : World} {K : PySem.W.Frag} {mg : Str → Option Value} {base : Heap} {C : Addr} {f : Addr} {cdv : Value} {A : Around} {outer : List Env} {s : Shared} {H : Hp} {E : XK} (T : Txf mg) (D__law_taken : FD P w K mg base 1 "_law_taken" ps__law_taken (sp__law_taken K C)) (hr : Room 1 (A.deeper (envOfC "_law_pick" (defScope st__law_pick) s.heap.objs.size f cdv))) :
    PSs (cxOf CX0 P w K mg base nm__law_pick "_law_pick" (defScope st__law_pick) f cdv A outer s H E).nox (defBody st__law_pick) (t__law_pick P w K C) := by
  have nd := sc__law_pick.nd
  have h : PSs (cxOf CX0 P w K mg base nm__law_pick "_law_pick" (defScope st__law_pick) f cdv A outer s H E).nox (defBody st__law_pick) (tSeq (tRet (tOp (rIx K) (tVar 1) (tCall (sp__law_taken K C) [] E0 (tCons (tVar 0) (tCons (tCB (rLen K) (tCons (tVar 1) (tNil))) (tNil)))))) (tNext)) := pss_cons (ps_ret (pe_ix ix_seq (pv 1) (pe_callD D__law_taken (hr.mono (by decide)) (by rfl) (pa_cons (pv 0) (pa_cons (pe_callB call_lenX (by rfl) T.f_len (by decide +kernel) (pa_cons (pv 1) (pa_nil))) (pa_nil)))) (fun _ _ => rfl))) (pss_nil)
  exact h
def t__law_mixed (P : Program) (w : World) (K : PySem.W.Frag) (C : Addr) : TS := tSeq (tPar 2 3 (tCons (tCB (rLstC K) (tCons (tVar 1) (tNil))) (tCons (tLst (tNil)) tNil))) (tSeq (tWhile (tTest (tOp (rNeD K) (tVar 2) (tLst (tNil)))) (tSeq (tDrop (tBM K "list" rAppend (tVar 3) (tCons (tBM K "list" rPopAt (tVar 2) (tCons (tCall (sp__law_taken K C) [] E0 (tCons (tVar 0) (tCons (tCB (rLen K) (tCons (tVar 2) (tNil))) (tNil)))) (tNil))) (tNil)))) (tNext))) (tSeq (tRet (tVar 3)) (tNext)))
theorem dv__law_mixed {P : Program} {w : World} {K : PySem.W.Frag} {mg : Str → Option Value} {base : Heap} {C : Addr} {f : Addr} {cdv : Value} {A : Around} {outer : List Env} {s : Shared} {H : Hp} {E : XK} (T : Txf mg) (D__law_taken : FD P w K mg base 1 "_law_taken" ps__law_taken (sp__law_taken K C)) (hr : Room 1 (A.deeper (envOfC "_law_mixed" (defScope st__law_mixed) s.heap.objs.size f cdv))) :
    PSs (cxOf CX0 P w K mg base nm__law_mixed "_law_mixed" (defScope st__law_mixed) f cdv A outer s H E).nox (defBody st__law_mixed) (t__law_mixed P w K C) := by
  have nd := sc__law_mixed.nd
  have h : PSs (cxOf CX0 P w K mg base nm__law_mixed "_law_mixed" (defScope st__law_mixed) f cdv A outer s H E).nox (defBody st__law_mixed) (tSeq (tPar 2 3 (tCons (tCB (rLstC K) (tCons (tVar 1) (tNil))) (tCons (tLst (tNil)) tNil))) (tSeq (tWhile (tTest (tOp (rNeD K) (tVar 2) (tLst (tNil)))) (tSeq (tDrop (tBM K "list" rAppend (tVar 3) (tCons (tBM K "list" rPopAt (tVar 2) (tCons (tCall (sp__law_taken K C) [] E0 (tCons (tVar 0) (tCons (tCB (rLen K) (tCons (tVar 2) (tNil))) (tNil)))) (tNil))) (tNil)))) (tNext))) (tSeq (tRet (tVar 3)) (tNext)))) := pss_cons (ps_par (i := 2) (j := 3) rfl nd rfl rfl (by decide) rfl rfl (pa_cons (pe_callTy call_lstX (by rfl) T.f_list (by decide +kernel) (pa_cons (pv 1) (pa_nil))) (pa_cons (pe_lst (pa_nil)) pa_nil)) (by rfl)) (pss_cons (ps_while PassesOwn.never (pt_cmpR (op_neD hr.units) (pv 2) (pe_lst (pa_nil)) (nomark _)) (pss_cons (ps_expr (pe_bm PySem.F.plainAttrs_list PySem.F.slot_list_append PySem.F.type_list_append mt_append (pv 3) (pa_cons (pe_bm PySem.F.plainAttrs_list PySem.F.slot_list_pop PySem.F.type_list_pop mt_popAt (pv 2) (pa_cons (pe_callD D__law_taken (hr.mono (by decide)) (by rfl) (pa_cons (pv 0) (pa_cons (pe_callB call_lenX (by rfl) T.f_len (by decide +kernel) (pa_cons (pv 2) (pa_nil))) (pa_nil)))) (pa_nil))) (pa_nil)))) (pss_nil))) (pss_cons (ps_ret (pv 3)) (pss_nil)))
  exact h
def t__law_has (P : Program) (w : World) (K : PySem.W.Frag) (C : Addr) : TS := tSeq (tFor (iRng1 (tCons (tC (.int 9)) (tNil))) (gName 3) (tSeq (tIfS (tOr (tB (tIsN (tVar 2))) (tNot (tB (tOp (rIx K) (tVar 1) (tVar 2))))) (tSeq (tRet (tC (.bl false))) (tNext)) (tNext)) (tSeq (tIfS (tB (tIsN (tOp (rIx K) (tOp (rIx K) (tVar 0) (tC (.int 1))) (tVar 2)))) (tSeq (tRet (tC (.bl true))) (tNext)) (tNext)) (tSeq (tAsg (tOp (rIx K) (tOp (rIx K) (tVar 0) (tC (.int 1))) (tVar 2)) (gName 2)) (tNext))))) (tSeq (tRet (tC (.bl false))) (tNext))
theorem dv__law_has {P : Program} {w : World} {K : PySem.W.Frag} {mg : Str → Option Value} {base : Heap} {C : Addr} {f : Addr} {cdv : Value} {A : Around} {outer : List Env} {s : Shared} {H : Hp} {E : XK} (T : Txf mg) (hr : Room 0 (A.deeper (envOfC "_law_has" (defScope st__law_has) s.heap.objs.size f cdv))) :
    PSs (cxOf CX0 P w K mg base nm__law_has "_law_has" (defScope st__law_has) f cdv A outer s H E).nox (defBody st__law_has) (t__law_has P w K C) := by
  have nd := sc__law_has.nd
  have h : PSs (cxOf CX0 P w K mg base nm__law_has "_law_has" (defScope st__law_has) f cdv A outer s H E).nox (defBody st__law_has) (tSeq (tFor (iRng1 (tCons (tC (.int 9)) (tNil))) (gName 3) (tSeq (tIfS (tOr (tB (tIsN (tVar 2))) (tNot (tB (tOp (rIx K) (tVar 1) (tVar 2))))) (tSeq (tRet (tC (.bl false))) (tNext)) (tNext)) (tSeq (tIfS (tB (tIsN (tOp (rIx K) (tOp (rIx K) (tVar 0) (tC (.int 1))) (tVar 2)))) (tSeq (tRet (tC (.bl true))) (tNext)) (tNext)) (tSeq (tAsg (tOp (rIx K) (tOp (rIx K) (tVar 0) (tC (.int 1))) (tVar 2)) (gName 2)) (tNext))))) (tSeq (tRet (tC (.bl false))) (tNext))) := pss_cons (ps_for PassesOwn.never rfl (pi_range1 (by rfl) T.f_range (pa_cons (pe_int) (pa_nil))) (pg_name (i := 3) nd rfl (Or.inl rfl)) (pss_cons (ps_if (PW.pt (pw_or (pt_cmp (pc_isN (pv 2))) (pw_or1 (pt_not (pt_val (pe_ix ix_seq (pv 1) (pv 2) (fun _ _ => rfl))))))) (pss_cons (ps_ret (pe_bl)) (pss_nil)) (pss_nil)) (pss_cons (ps_if (pt_cmp (pc_isN (pe_ix ix_seq (pe_ix ix_seq (pv 0) (pe_int) (fun _ _ => rfl)) (pv 2) (fun _ _ => rfl)))) (pss_cons (ps_ret (pe_bl)) (pss_nil)) (pss_nil)) (pss_cons (ps_set (i := 2) nd rfl (Or.inl rfl) (pe_ix ix_seq (pe_ix ix_seq (pv 0) (pe_int) (fun _ _ => rfl)) (pv 2) (fun _ _ => rfl))) (pss_nil))))) (pss_cons (ps_ret (pe_bl)) (pss_nil))
  exact h
def t__law_lit (P : Program) (w : World) (K : PySem.W.Frag) (C : Addr) : TS := tSeq (tRet (tLc (iRng1 (tCons (tCB (rLen K) (tCons (tVar 1) (tNil))) (tNil))) (gName 3) (tB (tCall (sp__law_has K C) [] E0 (tCons (tVar 0) (tCons (tVar 2) (tCons (tOp (rIx K) (tVar 1) (tVar 3)) (tNil)))))) (tVar 3) [3])) (tNext)
theorem dv__law_lit {P : Program} {w : World} {K : PySem.W.Frag} {mg : Str → Option Value} {base : Heap} {C : Addr} {f : Addr} {cdv : Value} {A : Around} {outer : List Env} {s : Shared} {H : Hp} {E : XK} (T : Txf mg) (D__law_has : FD P w K mg base 1 "_law_has" ps__law_has (sp__law_has K C)) (hr : Room 1 (A.deeper (envOfC "_law_lit" (defScope st__law_lit) s.heap.objs.size f cdv))) :
    PSs (cxOf CX0 P w K mg base nm__law_lit "_law_lit" (defScope st__law_lit) f cdv A outer s H E).nox (defBody st__law_lit) (t__law_lit P w K C) := by
  have nd := sc__law_lit.nd
  have h : PSs (cxOf CX0 P w K mg base nm__law_lit "_law_lit" (defScope st__law_lit) f cdv A outer s H E).nox (defBody st__law_lit) (tSeq (tRet (tLc (iRng1 (tCons (tCB (rLen K) (tCons (tVar 1) (tNil))) (tNil))) (gName 3) (tB (tCall (sp__law_has K C) [] E0 (tCons (tVar 0) (tCons (tVar 2) (tCons (tOp (rIx K) (tVar 1) (tVar 3)) (tNil)))))) (tVar 3) [3])) (tNext)) := pss_cons (ps_ret (pe_lc (own := [("_law_k", 3)]) rfl nd (pi_range1 (by rfl) T.f_range (pa_cons (pe_callB call_lenX (by rfl) T.f_len (by decide +kernel) (pa_cons (pv 1) (pa_nil))) (pa_nil))) (blkOk_by (N := nm__law_lit) (sc := defScope st__law_lit) (own := [("_law_k", 3)]) (by decide +kernel)) (fun _ _ _ _ _ => pg_name (i := 3) nd rfl (Or.inl rfl)) (fun _ _ _ _ _ => pts_one (pt_val (pe_callD D__law_has (hr.mono (by decide)) (by rfl) (pa_cons (pv 0) (pa_cons (pv 2) (pa_cons (pe_ix ix_seq (pv 1) (pv 3) (fun _ _ => rfl)) (pa_nil))))))) (fun _ _ _ _ _ => pv 3))) (pss_nil)
  exact h
def t__law_under (P : Program) (w : World) (K : PySem.W.Frag) (C : Addr) : TS := tSeq (tFor (iRng1 (tCons (tC (.int 9)) (tNil))) (gName 3) (tSeq (tIfS (tTest (tOp (rEqD K) (tVar 1) (tVar 2))) (tSeq (tRet (tC (.bl true))) (tNext)) (tNext)) (tSeq (tIfS (tB (tIsN (tVar 1))) (tSeq (tRet (tC (.bl false))) (tNext)) (tNext)) (tSeq (tAsg (tOp (rIx K) (tOp (rIx K) (tVar 0) (tC (.int 1))) (tVar 1)) (gName 1)) (tNext))))) (tSeq (tRet (tC (.bl false))) (tNext))
theorem dv__law_under {P : Program} {w : World} {K : PySem.W.Frag} {mg : Str → Option Value} {base : Heap} {C : Addr} {f : Addr} {cdv : Value} {A : Around} {outer : List Env} {s : Shared} {H : Hp} {E : XK} (T : Txf mg) (hr : Room 0 (A.deeper (envOfC "_law_under" (defScope st__law_under) s.heap.objs.size f cdv))) :
    PSs (cxOf CX0 P w K mg base nm__law_under "_law_under" (defScope st__law_under) f cdv A outer s H E).nox (defBody st__law_under) (t__law_under P w K C) := by
  have nd := sc__law_under.nd
  have h : PSs (cxOf CX0 P w K mg base nm__law_under "_law_under" (defScope st__law_under) f cdv A outer s H E).nox (defBody st__law_under) (tSeq (tFor (iRng1 (tCons (tC (.int 9)) (tNil))) (gName 3) (tSeq (tIfS (tTest (tOp (rEqD K) (tVar 1) (tVar 2))) (tSeq (tRet (tC (.bl true))) (tNext)) (tNext)) (tSeq (tIfS (tB (tIsN (tVar 1))) (tSeq (tRet (tC (.bl false))) (tNext)) (tNext)) (tSeq (tAsg (tOp (rIx K) (tOp (rIx K) (tVar 0) (tC (.int 1))) (tVar 1)) (gName 1)) (tNext))))) (tSeq (tRet (tC (.bl false))) (tNext))) := pss_cons (ps_for PassesOwn.never rfl (pi_range1 (by rfl) T.f_range (pa_cons (pe_int) (pa_nil))) (pg_name (i := 3) nd rfl (Or.inl rfl)) (pss_cons (ps_if (pt_cmpR (op_eqD hr.units) (pv 1) (pv 2) (nomark _)) (pss_cons (ps_ret (pe_bl)) (pss_nil)) (pss_nil)) (pss_cons (ps_if (pt_cmp (pc_isN (pv 1))) (pss_cons (ps_ret (pe_bl)) (pss_nil)) (pss_nil)) (pss_cons (ps_set (i := 1) nd rfl (Or.inl rfl) (pe_ix ix_seq (pe_ix ix_seq (pv 0) (pe_int) (fun _ _ => rfl)) (pv 1) (fun _ _ => rfl))) (pss_nil))))) (pss_cons (ps_ret (pe_bl)) (pss_nil))
  exact h
def t__law_flows (P : Program) (w : World) (K : PySem.W.Frag) (C : Addr) : TS := tSeq (tAsg (tCall (sp__law_lit K C) [] E0 (tCons (tVar 0) (tCons (tVar 1) (tCons (tVar 2) (tNil))))) (gName 4)) (tSeq (tAsg (tLst (tNil)) (gName 5)) (tSeq (tFor (iRng1 (tCons (tCB (rLen K) (tCons (tOp (rIx K) (tVar 0) (tC (.int 0))) (tNil))) (tNil))) (gName 6) (tSeq (tDrop (tBM K "list" rAppend (tVar 5) (tCons (tCB (rSum K) (tCons (tLc (iList K (tVar 4)) (gName 7) (tB (tCall (sp__law_under K C) [] E0 (tCons (tVar 0) (tCons (tOp (rIx K) (tVar 1) (tVar 7)) (tCons (tVar 6) (tNil)))))) (tDGet2 (tVar 3) (tOp (rIx K) (tOp (rIx K) (tOp (rIx K) (tVar 0) (tC (.int 2))) (tVar 7)) (tC (.int 0))) (tC (.int 0))) [7]) (tNil))) (tNil)))) (tNext))) (tSeq (tRet (tVar 5)) (tNext))))
theorem dv__law_flows {P : Program} {w : World} {K : PySem.W.Frag} {mg : Str → Option Value} {base : Heap} {C : Addr} {f : Addr} {cdv : Value} {A : Around} {outer : List Env} {s : Shared} {H : Hp} {E : XK} (T : Txf mg) (D__law_under : FD P w K mg base 1 "_law_under" ps__law_under (sp__law_under K C)) (D__law_lit : FD P w K mg base 2 "_law_lit" ps__law_lit (sp__law_lit K C)) (hr : Room 2 (A.deeper (envOfC "_law_flows" (defScope st__law_flows) s.heap.objs.size f cdv))) :
    PSs (cxOf CX0 P w K mg base nm__law_flows "_law_flows" (defScope st__law_flows) f cdv A outer s H E).nox (defBody st__law_flows) (t__law_flows P w K C) := by
  have nd := sc__law_flows.nd
  have hu := hu_of hr
  have h : PSs (cxOf CX0 P w K mg base nm__law_flows "_law_flows" (defScope st__law_flows) f cdv A outer s H E).nox (defBody st__law_flows) (tSeq (tAsg (tCall (sp__law_lit K C) [] E0 (tCons (tVar 0) (tCons (tVar 1) (tCons (tVar 2) (tNil))))) (gName 4)) (tSeq (tAsg (tLst (tNil)) (gName 5)) (tSeq (tFor (iRng1 (tCons (tCB (rLen K) (tCons (tOp (rIx K) (tVar 0) (tC (.int 0))) (tNil))) (tNil))) (gName 6) (tSeq (tDrop (tBM K "list" rAppend (tVar 5) (tCons (tCB (rSum K) (tCons (tLc (iList K (tVar 4)) (gName 7) (tB (tCall (sp__law_under K C) [] E0 (tCons (tVar 0) (tCons (tOp (rIx K) (tVar 1) (tVar 7)) (tCons (tVar 6) (tNil)))))) (tDGet2 (tVar 3) (tOp (rIx K) (tOp (rIx K) (tOp (rIx K) (tVar 0) (tC (.int 2))) (tVar 7)) (tC (.int 0))) (tC (.int 0))) [7]) (tNil))) (tNil)))) (tNext))) (tSeq (tRet (tVar 5)) (tNext))))) := pss_cons (ps_set (i := 4) nd rfl (Or.inl rfl) (pe_callD D__law_lit (hr.mono (by decide)) (by rfl) (pa_cons (pv 0) (pa_cons (pv 1) (pa_cons (pv 2) (pa_nil)))))) (pss_cons (ps_set (i := 5) nd rfl (Or.inl rfl) (pe_lst (pa_nil))) (pss_cons (ps_for PassesOwn.never rfl (pi_range1 (by rfl) T.f_range (pa_cons (pe_callB call_lenX (by rfl) T.f_len (by decide +kernel) (pa_cons (pe_ix ix_seq (pv 0) (pe_int) (fun _ _ => rfl)) (pa_nil))) (pa_nil))) (pg_name (i := 6) nd rfl (Or.inr rfl)) (pss_cons (ps_expr (pe_bm PySem.F.plainAttrs_list PySem.F.slot_list_append PySem.F.type_list_append mt_append (pv 5) (pa_cons (pe_callB (cr_sum rfl) (by rfl) T.f_sum (by decide +kernel) (pa_cons (pe_lc (own := [("_law_k", 7)]) rfl nd (pi_list (pv 4)) (blkOk_by (N := nm__law_flows) (sc := defScope st__law_flows) (own := [("_law_k", 7)]) (by decide +kernel)) (fun _ _ _ _ _ => pg_name (i := 7) nd rfl (Or.inl rfl)) (fun _ _ _ _ _ => pts_one (pt_val (pe_callD D__law_under (hr.mono (by decide)) (by rfl) (pa_cons (pv 0) (pa_cons (pe_ix ix_seq (pv 1) (pv 7) (fun _ _ => rfl)) (pa_cons (pv 6) (pa_nil))))))) (fun _ _ _ _ _ => pe_dget2 hu (pv 3) (pe_ix ix_seq (pe_ix ix_seq (pe_ix ix_seq (pv 0) (pe_int) (fun _ _ => rfl)) (pv 7) (fun _ _ => rfl)) (pe_int) (fun _ _ => rfl)) (pe_int) ⟨rfl, rfl, rfl, rfl⟩)) (pa_nil))) (pa_nil)))) (pss_nil))) (pss_cons (ps_ret (pv 5)) (pss_nil))))
  exact h
def t__law_loads (P : Program) (w : World) (K : PySem.W.Frag) (C : Addr) : TS := tSeq (tAsg (tDNewK) (gName 2)) (tSeq (tFor (iTup K (tOp (rIx K) (tVar 1) (tC (.int 2)))) (gName 3) (tSeq (tIfS (tTest (tOp (rI0 fun i j => .bl (decide (j < i))) (tCall (sp__law_taken K C) [] E0 (tCons (tVar 0) (tCons (tC (.int 3)) (tNil)))) (tC (.int 0)))) (tSeq (sDPut (tVar 2) (tOp (rIx K) (tVar 3) (tC (.int 0))) (tOp (rPlus3 K) (tC (.int 1)) (tCall (sp__law_taken K C) [] E0 (tCons (tVar 0) (tCons (tC (.int 9)) (tNil)))))) (tNext)) (tNext)) (tNext))) (tSeq (tRet (tVar 2)) (tNext)))
theorem dv__law_loads {P : Program} {w : World} {K : PySem.W.Frag} {mg : Str → Option Value} {base : Heap} {C : Addr} {f : Addr} {cdv : Value} {A : Around} {outer : List Env} {s : Shared} {H : Hp} {E : XK} (T : Txf mg) (D__law_taken : FD P w K mg base 1 "_law_taken" ps__law_taken (sp__law_taken K C)) (hr : Room 1 (A.deeper (envOfC "_law_loads" (defScope st__law_loads) s.heap.objs.size f cdv))) :
    PSs (cxOf CX0 P w K mg base nm__law_loads "_law_loads" (defScope st__law_loads) f cdv A outer s H E).nox (defBody st__law_loads) (t__law_loads P w K C) := by
  have nd := sc__law_loads.nd
  have hu := hu_of hr
  have h : PSs (cxOf CX0 P w K mg base nm__law_loads "_law_loads" (defScope st__law_loads) f cdv A outer s H E).nox (defBody st__law_loads) (tSeq (tAsg (tDNewK) (gName 2)) (tSeq (tFor (iTup K (tOp (rIx K) (tVar 1) (tC (.int 2)))) (gName 3) (tSeq (tIfS (tTest (tOp (rI0 fun i j => .bl (decide (j < i))) (tCall (sp__law_taken K C) [] E0 (tCons (tVar 0) (tCons (tC (.int 3)) (tNil)))) (tC (.int 0)))) (tSeq (sDPut (tVar 2) (tOp (rIx K) (tVar 3) (tC (.int 0))) (tOp (rPlus3 K) (tC (.int 1)) (tCall (sp__law_taken K C) [] E0 (tCons (tVar 0) (tCons (tC (.int 9)) (tNil)))))) (tNext)) (tNext)) (tNext))) (tSeq (tRet (tVar 2)) (tNext)))) := pss_cons (ps_set (i := 2) nd rfl (Or.inl rfl) (pe_dnewK)) (pss_cons (ps_for PassesOwn.never rfl (pi_tup (pe_ix ix_seq (pv 1) (pe_int) (fun _ _ => rfl))) (pg_name (i := 3) nd rfl (Or.inl rfl)) (pss_cons (ps_if (pt_cmpR op_gt (pe_callD D__law_taken (hr.mono (by decide)) (by rfl) (pa_cons (pv 0) (pa_cons (pe_int) (pa_nil)))) (pe_int) (nomark _)) (pss_cons (ps_dput hu (pv 2) (pe_ix ix_seq (pv 3) (pe_int) (fun _ _ => rfl)) (pe_op op_plus3 (pe_int) (pe_callD D__law_taken (hr.mono (by decide)) (by rfl) (pa_cons (pv 0) (pa_cons (pe_int) (pa_nil))))) rfl) (pss_nil)) (pss_nil)) (pss_nil))) (pss_cons (ps_ret (pv 2)) (pss_nil)))
  exact h
def t__law_wirings (P : Program) (w : World) (K : PySem.W.Frag) (C : Addr) : TS := tSeq (tAsg (tLst (tCons (tTup (tNil)) (tNil))) (gName 1)) (tSeq (tFor (iRng1 (tCons (tCB (rLen K) (tCons (tOp (rIx K) (tVar 0) (tC (.int 2))) (tNil))) (tNil))) (gName 2) (tSeq (tAsg (tLst (tNil)) (gName 3)) (tSeq (tFor (iList K (tVar 1)) (gName 4) (tSeq (tAsg (tLc (iRng1 (tCons (tVar 2) (tNil))) (gName 5) (tTest (tOp (rEqD K) (tSl (rCut K) (tOp (rIx K) (tOp (rIx K) (tVar 0) (tC (.int 2))) (tVar 5)) (tPart (tC (.int 1))) (tNoPart)) (tSl (rCut K) (tOp (rIx K) (tOp (rIx K) (tVar 0) (tC (.int 2))) (tVar 2)) (tPart (tC (.int 1))) (tNoPart)))) (tOp (rIx K) (tVar 4) (tVar 5)) [5]) (gName 6)) (tSeq (tIfS (tAnd (tTest (tOp (rEqD K) (tOp (rIx K) (tVar 0) (tC (.int 3))) (tC (.str "rooms")))) (tAnd (tTest (tOp (rEqD K) (tOp (rIx K) (tOp (rIx K) (tOp (rIx K) (tVar 0) (tC (.int 2))) (tVar 2)) (tC (.int 1))) (tC (.str "lamp")))) (tTest (tOp (rNeD K) (tVar 6) (tLst (tNil)))))) (tSeq (tDrop (tBM K "list" rAppend (tVar 3) (tCons (tOp (rPlus3 K) (tVar 4) (tTup (tCons (tOp (rIx K) (tVar 6) (tC (.int 0))) (tNil)))) (tNil)))) (tNext)) (tSeq (tAsg (tOp (rPlus3 K) (tVar 3) (tLc (iList K (tOp (rPlus3 K) (tLst (tCons (tC .non) (tNil))) (tLstRg (tRg1 (tCB (rLen K) (tCons (tOp (rIx K) (tVar 0) (tC (.int 0))) (tNil))))))) (gName 7) (tYes) (tOp (rPlus3 K) (tVar 4) (tTup (tCons (tVar 7) (tNil)))) [7])) (gName 3)) (tNext))) (tNext)))) (tSeq (tAsg (tVar 3) (gName 1)) (tNext))))) (tSeq (tRet (tVar 1)) (tNext)))
theorem dv__law_wirings {P : Program} {w : World} {K : PySem.W.Frag} {mg : Str → Option Value} {base : Heap} {C : Addr} {f : Addr} {cdv : Value} {A : Around} {outer : List Env} {s : Shared} {H : Hp} {E : XK} (T : Txf mg) (hr : Room 0 (A.deeper (envOfC "_law_wirings" (defScope st__law_wirings) s.heap.objs.size f cdv))) :
    PSs (cxOf CX0 P w K mg base nm__law_wirings "_law_wirings" (defScope st__law_wirings) f cdv A outer s H E).nox (defBody st__law_wirings) (t__law_wirings P w K C) := by
  have nd := sc__law_wirings.nd
  have h : PSs (cxOf CX0 P w K mg base nm__law_wirings "_law_wirings" (defScope st__law_wirings) f cdv A outer s H E).nox (defBody st__law_wirings) (tSeq (tAsg (tLst (tCons (tTup (tNil)) (tNil))) (gName 1)) (tSeq (tFor (iRng1 (tCons (tCB (rLen K) (tCons (tOp (rIx K) (tVar 0) (tC (.int 2))) (tNil))) (tNil))) (gName 2) (tSeq (tAsg (tLst (tNil)) (gName 3)) (tSeq (tFor (iList K (tVar 1)) (gName 4) (tSeq (tAsg (tLc (iRng1 (tCons (tVar 2) (tNil))) (gName 5) (tTest (tOp (rEqD K) (tSl (rCut K) (tOp (rIx K) (tOp (rIx K) (tVar 0) (tC (.int 2))) (tVar 5)) (tPart (tC (.int 1))) (tNoPart)) (tSl (rCut K) (tOp (rIx K) (tOp (rIx K) (tVar 0) (tC (.int 2))) (tVar 2)) (tPart (tC (.int 1))) (tNoPart)))) (tOp (rIx K) (tVar 4) (tVar 5)) [5]) (gName 6)) (tSeq (tIfS (tAnd (tTest (tOp (rEqD K) (tOp (rIx K) (tVar 0) (tC (.int 3))) (tC (.str "rooms")))) (tAnd (tTest (tOp (rEqD K) (tOp (rIx K) (tOp (rIx K) (tOp (rIx K) (tVar 0) (tC (.int 2))) (tVar 2)) (tC (.int 1))) (tC (.str "lamp")))) (tTest (tOp (rNeD K) (tVar 6) (tLst (tNil)))))) (tSeq (tDrop (tBM K "list" rAppend (tVar 3) (tCons (tOp (rPlus3 K) (tVar 4) (tTup (tCons (tOp (rIx K) (tVar 6) (tC (.int 0))) (tNil)))) (tNil)))) (tNext)) (tSeq (tAsg (tOp (rPlus3 K) (tVar 3) (tLc (iList K (tOp (rPlus3 K) (tLst (tCons (tC .non) (tNil))) (tLstRg (tRg1 (tCB (rLen K) (tCons (tOp (rIx K) (tVar 0) (tC (.int 0))) (tNil))))))) (gName 7) (tYes) (tOp (rPlus3 K) (tVar 4) (tTup (tCons (tVar 7) (tNil)))) [7])) (gName 3)) (tNext))) (tNext)))) (tSeq (tAsg (tVar 3) (gName 1)) (tNext))))) (tSeq (tRet (tVar 1)) (tNext)))) := pss_cons (ps_set (i := 1) nd rfl (Or.inl rfl) (pe_lst (pa_cons (pe_tup (pa_nil)) (pa_nil)))) (pss_cons (ps_for PassesOwn.never rfl (pi_range1 (by rfl) T.f_range (pa_cons (pe_callB call_lenX (by rfl) T.f_len (by decide +kernel) (pa_cons (pe_ix ix_seq (pv 0) (pe_int) (fun _ _ => rfl)) (pa_nil))) (pa_nil))) (pg_name (i := 2) nd rfl (Or.inr rfl)) (pss_cons (ps_set (i := 3) nd rfl (Or.inl rfl) (pe_lst (pa_nil))) (pss_cons (ps_for PassesOwn.never rfl (pi_list (pv 1)) (pg_name (i := 4) nd rfl (Or.inr rfl)) (pss_cons (ps_setLc (i := 6) (own := [("_law_j", 5)]) rfl nd rfl rfl (sw_true rfl rfl rfl (by decide +kernel)) (pi_range1 (by rfl) T.f_range (pa_cons (pv 2) (pa_nil))) (blkOk_by (N := nm__law_wirings) (sc := defScope st__law_wirings) (own := [("_law_j", 5)]) (by decide +kernel)) (fun _ _ _ _ _ => pg_name (i := 5) nd rfl (Or.inl rfl)) (fun _ _ _ _ _ => pts_one (pt_cmpR (op_eqD hr.units) (pe_slice sl_cut (pe_ix ix_seq (pe_ix ix_seq (pv 0) (pe_int) (fun _ _ => rfl)) (pv 5) (fun _ _ => rfl)) (po_some (pe_int)) (po_none)) (pe_slice sl_cut (pe_ix ix_seq (pe_ix ix_seq (pv 0) (pe_int) (fun _ _ => rfl)) (pv 2) (fun _ _ => rfl)) (po_some (pe_int)) (po_none)) (nomark _))) (fun _ _ _ _ _ => pe_ix ix_seq (pv 4) (pv 5) (fun _ _ => rfl))) (pss_cons (ps_if (PW.pt (pw_and (pt_cmpR (op_eqD hr.units) (pe_ix ix_seq (pv 0) (pe_int) (fun _ _ => rfl)) (pe_str) (nomark _)) (pw_and (pt_cmpR (op_eqD hr.units) (pe_ix ix_seq (pe_ix ix_seq (pe_ix ix_seq (pv 0) (pe_int) (fun _ _ => rfl)) (pv 2) (fun _ _ => rfl)) (pe_int) (fun _ _ => rfl)) (pe_str) (nomark _)) (pw_and1 (pt_cmpR (op_neD hr.units) (pv 6) (pe_lst (pa_nil)) (nomark _)))))) (pss_cons (ps_expr (pe_bm PySem.F.plainAttrs_list PySem.F.slot_list_append PySem.F.type_list_append mt_append (pv 3) (pa_cons (pe_op op_plus3 (pv 4) (pe_tup (pa_cons (pe_ix ix_seq (pv 6) (pe_int) (fun _ _ => rfl)) (pa_nil)))) (pa_nil)))) (pss_nil)) (pss_cons (ps_set (i := 3) nd rfl (Or.inl rfl) (pe_op op_plus3 (pv 3) (pe_lc (own := [("_law_one", 7)]) rfl nd (pi_list (pe_op op_plus3 (pe_lst (pa_cons (pe_non) (pa_nil))) (pe_listRg rfl (by rfl) T.f_list (prg_1 (by rfl) T.f_range (pe_callB call_lenX (by rfl) T.f_len (by decide +kernel) (pa_cons (pe_ix ix_seq (pv 0) (pe_int) (fun _ _ => rfl)) (pa_nil))))))) (blkOk_by (N := nm__law_wirings) (sc := defScope st__law_wirings) (own := [("_law_one", 7)]) (by decide +kernel)) (fun _ _ _ _ _ => pg_name (i := 7) nd rfl (Or.inl rfl)) (fun _ _ _ _ _ => pts_nil) (fun _ _ _ _ _ => pe_op op_plus3 (pv 4) (pe_tup (pa_cons (pv 7) (pa_nil))))))) (pss_nil))) (pss_nil)))) (pss_cons (ps_set (i := 1) nd rfl (Or.inl rfl) (pv 3)) (pss_nil))))) (pss_cons (ps_ret (pv 1)) (pss_nil)))
  exact h
def t__law_scheme (P : Program) (w : World) (K : PySem.W.Frag) (C : Addr) : TS := tSeq (tPar 3 4 (tCons (tOp (rPlus3 K) (tC (.int 1)) (tCall (sp__law_taken K C) [] E0 (tCons (tVar 0) (tCons (tVar 1) (tNil))))) (tCons (tOp (rPlus3 K) (tC (.int 1)) (tCall (sp__law_taken K C) [] E0 (tCons (tVar 0) (tCons (tVar 2) (tNil))))) tNil))) (tSeq (tAsg (tCB (rTupC K) (tCons (tLc (iRng1 (tCons (tVar 3) (tNil))) (gName 5) (tYes) (tCall (sp__law_pick K C) [] E0 (tCons (tVar 0) (tCons (tLst (tCons (tC (.int 3)) (tCons (tC (.int 4)) (tCons (tC (.int 5)) (tCons (tC (.int 6)) (tCons (tC (.int 8)) (tCons (tC (.int 9)) (tCons (tC (.int 12)) (tCons (tC (.int 16)) (tNil)))))))))) (tNil)))) [5]) (tNil))) (gName 6)) (tSeq (tAsg (tCB (rTupC K) (tCons (tLc (iRng1 (tCons (tVar 3) (tNil))) (gName 5) (tYes) (tCall (sp__law_pick K C) [] E0 (tCons (tVar 0) (tCons (tOp (rPlus3 K) (tLst (tCons (tC .non) (tNil))) (tLstRg (tRg1 (tVar 5)))) (tNil)))) [5]) (tNil))) (gName 7)) (tSeq (tAsg (tLst (tNil)) (gName 8)) (tSeq (tFor (iList K (tSl (rCut K) (tLst (tCons (tC (.str "fan")) (tCons (tC (.str "hall")) (tCons (tC (.str "iron")) (tCons (tC (.str "oven")) (tCons (tC (.str "pump")) (tNil))))))) (tNoPart) (tPart (tVar 4)))) (gName 9) (tSeq (tDrop (tBM K "list" rAppend (tVar 8) (tCons (tTup (tCons (tVar 9) (tCons (tCall (sp__law_pick K C) [] E0 (tCons (tVar 0) (tCons (tLst (tCons (tC (.str "lamp")) (tCons (tC (.str "lamp")) (tCons (tC (.str "plug")) (tNil))))) (tNil)))) (tCons (tOp (rI CMul fun i j => .int (i * j)) (tCall (sp__law_taken K C) [] E0 (tCons (tVar 0) (tCons (tC (.int 2)) (tNil)))) (tC (.int 3))) (tNil))))) (tNil)))) (tNext))) (tSeq (tAsg (tCall (sp__law_pick K C) [] E0 (tCons (tVar 0) (tCons (tLst (tCons (tC (.str "free")) (tCons (tC (.str "rooms")) (tNil)))) (tNil)))) (gName 10)) (tSeq (tAsg (tTup (tCons (tVar 6) (tCons (tVar 7) (tCons (tCB (rTupC K) (tCons (tVar 8) (tNil))) (tCons (tVar 10) (tNil)))))) (gName 11)) (tSeq (tRet (tOp (rPlus3 K) (tVar 11) (tTup (tCons (tCall (sp__law_pick K C) [] E0 (tCons (tVar 0) (tCons (tCall (sp__law_wirings K C) [] E0 (tCons (tVar 11) (tNil))) (tNil)))) (tNil))))) (tNext))))))))
theorem dv__law_scheme {P : Program} {w : World} {K : PySem.W.Frag} {mg : Str → Option Value} {base : Heap} {C : Addr} {f : Addr} {cdv : Value} {A : Around} {outer : List Env} {s : Shared} {H : Hp} {E : XK} (T : Txf mg) (D__law_wirings : FD P w K mg base 1 "_law_wirings" ps__law_wirings (sp__law_wirings K C)) (D__law_pick : FD P w K mg base 2 "_law_pick" ps__law_pick (sp__law_pick K C)) (D__law_taken : FD P w K mg base 1 "_law_taken" ps__law_taken (sp__law_taken K C)) (hr : Room 2 (A.deeper (envOfC "_law_scheme" (defScope st__law_scheme) s.heap.objs.size f cdv))) :
    PSs (cxOf CX0 P w K mg base nm__law_scheme "_law_scheme" (defScope st__law_scheme) f cdv A outer s H E).nox (defBody st__law_scheme) (t__law_scheme P w K C) := by
  have nd := sc__law_scheme.nd
  have h : PSs (cxOf CX0 P w K mg base nm__law_scheme "_law_scheme" (defScope st__law_scheme) f cdv A outer s H E).nox (defBody st__law_scheme) (tSeq (tPar 3 4 (tCons (tOp (rPlus3 K) (tC (.int 1)) (tCall (sp__law_taken K C) [] E0 (tCons (tVar 0) (tCons (tVar 1) (tNil))))) (tCons (tOp (rPlus3 K) (tC (.int 1)) (tCall (sp__law_taken K C) [] E0 (tCons (tVar 0) (tCons (tVar 2) (tNil))))) tNil))) (tSeq (tAsg (tCB (rTupC K) (tCons (tLc (iRng1 (tCons (tVar 3) (tNil))) (gName 5) (tYes) (tCall (sp__law_pick K C) [] E0 (tCons (tVar 0) (tCons (tLst (tCons (tC (.int 3)) (tCons (tC (.int 4)) (tCons (tC (.int 5)) (tCons (tC (.int 6)) (tCons (tC (.int 8)) (tCons (tC (.int 9)) (tCons (tC (.int 12)) (tCons (tC (.int 16)) (tNil)))))))))) (tNil)))) [5]) (tNil))) (gName 6)) (tSeq (tAsg (tCB (rTupC K) (tCons (tLc (iRng1 (tCons (tVar 3) (tNil))) (gName 5) (tYes) (tCall (sp__law_pick K C) [] E0 (tCons (tVar 0) (tCons (tOp (rPlus3 K) (tLst (tCons (tC .non) (tNil))) (tLstRg (tRg1 (tVar 5)))) (tNil)))) [5]) (tNil))) (gName 7)) (tSeq (tAsg (tLst (tNil)) (gName 8)) (tSeq (tFor (iList K (tSl (rCut K) (tLst (tCons (tC (.str "fan")) (tCons (tC (.str "hall")) (tCons (tC (.str "iron")) (tCons (tC (.str "oven")) (tCons (tC (.str "pump")) (tNil))))))) (tNoPart) (tPart (tVar 4)))) (gName 9) (tSeq (tDrop (tBM K "list" rAppend (tVar 8) (tCons (tTup (tCons (tVar 9) (tCons (tCall (sp__law_pick K C) [] E0 (tCons (tVar 0) (tCons (tLst (tCons (tC (.str "lamp")) (tCons (tC (.str "lamp")) (tCons (tC (.str "plug")) (tNil))))) (tNil)))) (tCons (tOp (rI CMul fun i j => .int (i * j)) (tCall (sp__law_taken K C) [] E0 (tCons (tVar 0) (tCons (tC (.int 2)) (tNil)))) (tC (.int 3))) (tNil))))) (tNil)))) (tNext))) (tSeq (tAsg (tCall (sp__law_pick K C) [] E0 (tCons (tVar 0) (tCons (tLst (tCons (tC (.str "free")) (tCons (tC (.str "rooms")) (tNil)))) (tNil)))) (gName 10)) (tSeq (tAsg (tTup (tCons (tVar 6) (tCons (tVar 7) (tCons (tCB (rTupC K) (tCons (tVar 8) (tNil))) (tCons (tVar 10) (tNil)))))) (gName 11)) (tSeq (tRet (tOp (rPlus3 K) (tVar 11) (tTup (tCons (tCall (sp__law_pick K C) [] E0 (tCons (tVar 0) (tCons (tCall (sp__law_wirings K C) [] E0 (tCons (tVar 11) (tNil))) (tNil)))) (tNil))))) (tNext))))))))) := pss_cons (ps_par (i := 3) (j := 4) rfl nd rfl rfl (by decide) rfl rfl (pa_cons (pe_op op_plus3 (pe_int) (pe_callD D__law_taken (hr.mono (by decide)) (by rfl) (pa_cons (pv 0) (pa_cons (pv 1) (pa_nil))))) (pa_cons (pe_op op_plus3 (pe_int) (pe_callD D__law_taken (hr.mono (by decide)) (by rfl) (pa_cons (pv 0) (pa_cons (pv 2) (pa_nil))))) pa_nil)) (by rfl)) (pss_cons (ps_set (i := 6) nd rfl (Or.inl rfl) (pe_callTy call_tupX (by rfl) T.f_tuple (by decide +kernel) (pa_cons (pe_lc (own := [("_law_k", 5)]) rfl nd (pi_range1 (by rfl) T.f_range (pa_cons (pv 3) (pa_nil))) (blkOk_by (N := nm__law_scheme) (sc := defScope st__law_scheme) (own := [("_law_k", 5)]) (by decide +kernel)) (fun _ _ _ _ _ => pg_name (i := 5) nd rfl (Or.inl rfl)) (fun _ _ _ _ _ => pts_nil) (fun _ _ _ _ _ => pe_callD D__law_pick (hr.mono (by decide)) (by rfl) (pa_cons (pv 0) (pa_cons (pe_lst (pa_cons (pe_int) (pa_cons (pe_int) (pa_cons (pe_int) (pa_cons (pe_int) (pa_cons (pe_int) (pa_cons (pe_int) (pa_cons (pe_int) (pa_cons (pe_int) (pa_nil)))))))))) (pa_nil))))) (pa_nil)))) (pss_cons (ps_set (i := 7) nd rfl (Or.inl rfl) (pe_callTy call_tupX (by rfl) T.f_tuple (by decide +kernel) (pa_cons (pe_lc (own := [("_law_k", 5)]) rfl nd (pi_range1 (by rfl) T.f_range (pa_cons (pv 3) (pa_nil))) (blkOk_by (N := nm__law_scheme) (sc := defScope st__law_scheme) (own := [("_law_k", 5)]) (by decide +kernel)) (fun _ _ _ _ _ => pg_name (i := 5) nd rfl (Or.inl rfl)) (fun _ _ _ _ _ => pts_nil) (fun _ _ _ _ _ => pe_callD D__law_pick (hr.mono (by decide)) (by rfl) (pa_cons (pv 0) (pa_cons (pe_op op_plus3 (pe_lst (pa_cons (pe_non) (pa_nil))) (pe_listRg rfl (by rfl) T.f_list (prg_1 (by rfl) T.f_range (pv 5)))) (pa_nil))))) (pa_nil)))) (pss_cons (ps_set (i := 8) nd rfl (Or.inl rfl) (pe_lst (pa_nil))) (pss_cons (ps_for PassesOwn.never rfl (pi_list (pe_slice sl_cut (pe_lst (pa_cons (pe_str) (pa_cons (pe_str) (pa_cons (pe_str) (pa_cons (pe_str) (pa_cons (pe_str) (pa_nil))))))) (po_none) (po_some (pv 4)))) (pg_name (i := 9) nd rfl (Or.inl rfl)) (pss_cons (ps_expr (pe_bm PySem.F.plainAttrs_list PySem.F.slot_list_append PySem.F.type_list_append mt_append (pv 8) (pa_cons (pe_tup (pa_cons (pv 9) (pa_cons (pe_callD D__law_pick (hr.mono (by decide)) (by rfl) (pa_cons (pv 0) (pa_cons (pe_lst (pa_cons (pe_str) (pa_cons (pe_str) (pa_cons (pe_str) (pa_nil))))) (pa_nil)))) (pa_cons (pe_op op_mul (pe_callD D__law_taken (hr.mono (by decide)) (by rfl) (pa_cons (pv 0) (pa_cons (pe_int) (pa_nil)))) (pe_int)) (pa_nil))))) (pa_nil)))) (pss_nil))) (pss_cons (ps_set (i := 10) nd rfl (Or.inl rfl) (pe_callD D__law_pick (hr.mono (by decide)) (by rfl) (pa_cons (pv 0) (pa_cons (pe_lst (pa_cons (pe_str) (pa_cons (pe_str) (pa_nil)))) (pa_nil))))) (pss_cons (ps_set (i := 11) nd rfl (Or.inl rfl) (pe_tup (pa_cons (pv 6) (pa_cons (pv 7) (pa_cons (pe_callTy call_tupX (by rfl) T.f_tuple (by decide +kernel) (pa_cons (pv 8) (pa_nil))) (pa_cons (pv 10) (pa_nil))))))) (pss_cons (ps_ret (pe_op op_plus3 (pv 11) (pe_tup (pa_cons (pe_callD D__law_pick (hr.mono (by decide)) (by rfl) (pa_cons (pv 0) (pa_cons (pe_callD D__law_wirings (hr.mono (by decide)) (by rfl) (pa_cons (pv 11) (pa_nil))) (pa_nil)))) (pa_nil))))) (pss_nil))))))))
  exact h
end Bf
set_option Elab.async false
set_option linter.all false
set_option maxRecDepth 100000
set_option maxHeartbeats 4000000
/-! The derivations of the defs' readings. Printed by mkdv.py. -/
namespace Bf
open PySem PyProof.Rows L2
def t_are_above (P : Program) (w : World) (K : PySem.W.Frag) (C : Addr) : TS := tSeq (tIfS (tTest (tOp (rNeD K) (tCB (rLen K) (tCons (tVar 0) (tNil))) (tVar 1))) (tSeq (tRet (tC (.bl false))) (tNext)) (tNext)) (tSeq (tRet (tCB (rAll K) (tCons (tLc (iEnumT K (tCons (tVar 0) (tNil))) (gTup K 2 (gCons (gName 2) (gCons (gName 3) (gNil)))) (tYes) (tOrV (tIsN (tVar 3)) (tCall (sp_is_number K C) [] E0 (tCons (tVar 3) (tCons (tC (.int 0)) (tCons (tOp (rI0 fun i j => .int (i - j)) (tVar 2) (tC (.int 1))) (tNil)))))) [2, 3]) (tNil)))) (tNext))
theorem dv_are_above {P : Program} {w : World} {K : PySem.W.Frag} {mg : Str → Option Value} {base : Heap} {C : Addr} {f : Addr} {cdv : Value} {A : Around} {outer : List Env} {s : Shared} {H : Hp} {E : XK} (T : Txf mg) (D_is_number : FD P w K mg base 1 "is_number" ps_is_number (sp_is_number K C)) (hr : Room 1 (A.deeper (envOfC "are_above" (defScope st_are_above) s.heap.objs.size f cdv))) :
    PSs (cxOf CX0 P w K mg base nm_are_above "are_above" (defScope st_are_above) f cdv A outer s H E).nox (defBody st_are_above) (t_are_above P w K C) := by
  have nd := sc_are_above.nd
  have h : PSs (cxOf CX0 P w K mg base nm_are_above "are_above" (defScope st_are_above) f cdv A outer s H E).nox (defBody st_are_above) (tSeq (tIfS (tTest (tOp (rNeD K) (tCB (rLen K) (tCons (tVar 0) (tNil))) (tVar 1))) (tSeq (tRet (tC (.bl false))) (tNext)) (tNext)) (tSeq (tRet (tCB (rAll K) (tCons (tLc (iEnumT K (tCons (tVar 0) (tNil))) (gTup K 2 (gCons (gName 2) (gCons (gName 3) (gNil)))) (tYes) (tOrV (tIsN (tVar 3)) (tCall (sp_is_number K C) [] E0 (tCons (tVar 3) (tCons (tC (.int 0)) (tCons (tOp (rI0 fun i j => .int (i - j)) (tVar 2) (tC (.int 1))) (tNil)))))) [2, 3]) (tNil)))) (tNext))) := pss_cons (ps_if (pt_cmpR (op_neD hr.units) (pe_callB call_lenX (by rfl) T.f_len (by decide +kernel) (pa_cons (pv 0) (pa_nil))) (pv 1) (nomark _)) (pss_cons (ps_ret (pe_bl)) (pss_nil)) (pss_nil)) (pss_cons (ps_ret (pe_callB (cr_all rfl) (by rfl) T.f_all (by decide +kernel) (pa_cons (pe_lc (own := [("breaker", 2), ("other", 3)]) rfl nd (pi_enumT (by rfl) T.f_enumerate (pa_cons (pv 0) (pa_nil))) (blkOk_by (N := nm_are_above) (sc := defScope st_are_above) (own := [("breaker", 2), ("other", 3)]) (by decide +kernel)) (fun _ _ _ _ _ => pg_tup rfl (pgs_cons (pg_name (i := 2) nd rfl (Or.inl rfl)) (pgs_cons (pg_name (i := 3) nd rfl (Or.inl rfl)) (pgs_nil)))) (fun _ _ _ _ _ => pts_nil) (fun _ _ _ _ _ => pe_or (pe_cmp (pc_isN (pv 3))) (pe_one (pe_callD D_is_number (hr.mono (by decide)) (by rfl) (pa_cons (pv 3) (pa_cons (pe_int) (pa_cons (pe_op op_sub (pv 2) (pe_int)) (pa_nil)))))))) (pa_nil)))) (pss_nil))
  exact h
def t_wrong_load (P : Program) (w : World) (K : PySem.W.Frag) (C : Addr) : TS := tSeq (tFor (iList K (tCB (rSortDk) (tCons (tVar 1) (tNil)))) (gName 2) (tSeq (tIfS (tOr (tTest (tOp (rIn K true) (tVar 2) (SlX.tPropSl C (sp_names K C) E0 (tVar 0)))) (tNot (tB (tCall (sp_is_number K C) [] E0 (tCons (tDGet (tVar 1) (tVar 2)) (tCons (tC (.int 1)) (tCons (tC (.int 99)) (tNil)))))))) (tSeq (tRet (tVar 2)) (tNext)) (tNext)) (tNext))) (tSeq (tRet (tC .non)) (tNext))
theorem dv_wrong_load {P : Program} {w : World} {K : PySem.W.Frag} {mg : Str → Option Value} {base : Heap} {C : Addr} {f : Addr} {cdv : Value} {A : Around} {outer : List Env} {s : Shared} {H : Hp} {E : XK} (T : Txf mg) (D_is_number : FD P w K mg base 1 "is_number" ps_is_number (sp_is_number K C)) (PP : PlP P w K mg base C) (hr : Room 2 (A.deeper (envOfC "wrong_load" (defScope st_wrong_load) s.heap.objs.size f cdv))) :
    PSs (cxOf CX0 P w K mg base nm_wrong_load "wrong_load" (defScope st_wrong_load) f cdv A outer s H E).nox (defBody st_wrong_load) (t_wrong_load P w K C) := by
  have nd := sc_wrong_load.nd
  have hu := hu_of hr
  have h : PSs (cxOf CX0 P w K mg base nm_wrong_load "wrong_load" (defScope st_wrong_load) f cdv A outer s H E).nox (defBody st_wrong_load) (tSeq (tFor (iList K (tCB (rSortDk) (tCons (tVar 1) (tNil)))) (gName 2) (tSeq (tIfS (tOr (tTest (tOp (rIn K true) (tVar 2) (SlX.tPropSl C (sp_names K C) E0 (tVar 0)))) (tNot (tB (tCall (sp_is_number K C) [] E0 (tCons (tDGet (tVar 1) (tVar 2)) (tCons (tC (.int 1)) (tCons (tC (.int 99)) (tNil)))))))) (tSeq (tRet (tVar 2)) (tNext)) (tNext)) (tNext))) (tSeq (tRet (tC .non)) (tNext))) := pss_cons (ps_for PassesOwn.never rfl (pi_list (pe_callB (call_sortDk rfl) (by rfl) T.f_sorted (by decide +kernel) (pa_cons (pv 1) (pa_nil)))) (pg_name (i := 2) nd rfl (Or.inl rfl)) (pss_cons (ps_if (PW.pt (pw_or (pt_cmpR op_notIn_seq (pv 2) (pe_propX PP.names (hr.mono (by decide)) (pv 0)) (by rfl)) (pw_or1 (pt_not (pt_val (pe_callD D_is_number (hr.mono (by decide)) (by rfl) (pa_cons (pe_dget hu (pv 1) (pv 2) (fun _ _ => rfl)) (pa_cons (pe_int) (pa_cons (pe_gI T.i_MAX_LOAD (by rfl)) (pa_nil)))))))))) (pss_cons (ps_ret (pv 2)) (pss_nil)) (pss_nil)) (pss_nil))) (pss_cons (ps_ret (pe_non)) (pss_nil))
  exact h
def t_check_timed (P : Program) (w : World) (K : PySem.W.Frag) (C : Addr) : TS := tSeq (tDrop (tCall (sp_check_wiring K C) [] E0 (tCons (tVar 0) (tCons (tVar 1) (tNil))))) (tSeq (tDrop (tCall (sp_check_loads K C) [] E0 (tCons (tVar 0) (tCons (tVar 2) (tNil))))) (tSeq (tFor (iList K (tCB (rSortDk) (tCons (tVar 3) (tNil)))) (gName 4) (tSeq (tIfS (tOr (tTest (tOp (rIn K true) (tVar 4) (SlX.tPropSl C (sp_names K C) E0 (tVar 0)))) (tNot (tB (tCall (sp_is_timer K C) [] E0 (tCons (tDGet (tVar 3) (tVar 4)) (tNil)))))) (tSeq (tNever) (tNext)) (tNext)) (tNext))) (tNext)))
theorem dv_check_timed {P : Program} {w : World} {K : PySem.W.Frag} {mg : Str → Option Value} {base : Heap} {C : Addr} {f : Addr} {cdv : Value} {A : Around} {outer : List Env} {s : Shared} {H : Hp} {E : XK} (T : Txf mg) (D_is_timer : FD P w K mg base 2 "is_timer" ps_is_timer (sp_is_timer K C)) (D_check_loads : FD P w K mg base 4 "check_loads" ps_check_loads (sp_check_loads K C)) (D_check_wiring : FD P w K mg base 5 "check_wiring" ps_check_wiring (sp_check_wiring K C)) (PP : PlP P w K mg base C) (hr : Room 5 (A.deeper (envOfC "check_timed" (defScope st_check_timed) s.heap.objs.size f cdv))) :
    PSs (cxOf CX0 P w K mg base nm_check_timed "check_timed" (defScope st_check_timed) f cdv A outer s H E).nox (defBody st_check_timed) (t_check_timed P w K C) := by
  have nd := sc_check_timed.nd
  have hu := hu_of hr
  have h : PSs (cxOf CX0 P w K mg base nm_check_timed "check_timed" (defScope st_check_timed) f cdv A outer s H E).nox (defBody st_check_timed) (tSeq (tDrop (tCall (sp_check_wiring K C) [] E0 (tCons (tVar 0) (tCons (tVar 1) (tNil))))) (tSeq (tDrop (tCall (sp_check_loads K C) [] E0 (tCons (tVar 0) (tCons (tVar 2) (tNil))))) (tSeq (tFor (iList K (tCB (rSortDk) (tCons (tVar 3) (tNil)))) (gName 4) (tSeq (tIfS (tOr (tTest (tOp (rIn K true) (tVar 4) (SlX.tPropSl C (sp_names K C) E0 (tVar 0)))) (tNot (tB (tCall (sp_is_timer K C) [] E0 (tCons (tDGet (tVar 3) (tVar 4)) (tNil)))))) (tSeq (tNever) (tNext)) (tNext)) (tNext))) (tNext)))) := pss_cons (ps_expr (pe_callD D_check_wiring (hr.mono (by decide)) (by rfl) (pa_cons (pv 0) (pa_cons (pv 1) (pa_nil))))) (pss_cons (ps_expr (pe_callD D_check_loads (hr.mono (by decide)) (by rfl) (pa_cons (pv 0) (pa_cons (pv 2) (pa_nil))))) (pss_cons (ps_for PassesOwn.never rfl (pi_list (pe_callB (call_sortDk rfl) (by rfl) T.f_sorted (by decide +kernel) (pa_cons (pv 3) (pa_nil)))) (pg_name (i := 4) nd rfl (Or.inl rfl)) (pss_cons (ps_if (PW.pt (pw_or (pt_cmpR op_notIn_seq (pv 4) (pe_propX PP.names (hr.mono (by decide)) (pv 0)) (by rfl)) (pw_or1 (pt_not (pt_val (pe_callD D_is_timer (hr.mono (by decide)) (by rfl) (pa_cons (pe_dget hu (pv 3) (pv 4) (fun _ _ => rfl)) (pa_nil)))))))) (pss_cons (ps_never) (pss_nil)) (pss_nil)) (pss_nil))) (pss_nil)))
  exact h
def t_trips_in (P : Program) (w : World) (K : PySem.W.Frag) (C : Addr) : TS := tSeq (tAsg (tLst (tNil)) (gName 4)) (tSeq (tAsg (tLst (tCons (tC (.int 0)) (tNil))) (gName 5)) (tSeq (tWhile (tTest (tOp (rNeD K) (tVar 5) (tLst (tNil)))) (tSeq (tAsg (tCall (sp_currents_in K C) [] E0 (tCons (tVar 0) (tCons (tVar 1) (tCons (tVar 2) (tCons (tVar 3) (tNil)))))) (gName 6)) (tSeq (tAsg (tLc (iRng1 (tCons (tCB (rLenP K C) (tCons (tVar 0) (tNil))) (tNil))) (gName 7) (tTest (tOp (rI0 fun i j => .bl (decide (j < i))) (tOp (rIx K) (tVar 6) (tVar 7)) (tOp (rIx K) (SlX.tPropSl C (sp_rates K C) E0 (tVar 0)) (tVar 7)))) (tTup (tCons (tOp (rIx K) (SlX.tPropSl C (sp_rates K C) E0 (tVar 0)) (tVar 7)) (tCons (tOp (rI0 fun i j => .int (i - j)) (tC (.int 0)) (tVar 7)) (tNil)))) [7]) (gName 5)) (tSeq (tIfS (tTest (tOp (rNeD K) (tVar 5) (tLst (tNil)))) (tSeq (tAsg (tOp (rI0 fun i j => .int (i - j)) (tC (.int 0)) (tOp (rIx K) (tCB (rMinP K) (tCons (tVar 5) (tNil))) (tC (.int 1)))) (gName 8)) (tSeq (tDrop (tBM K "list" rAppend (tVar 4) (tCons (tVar 8) (tNil)))) (tSeq (tAsg (tOp (rPlus3 K) (tOp (rPlus3 K) (tSl (rCut K) (tVar 2) (tNoPart) (tPart (tVar 8))) (tTup (tCons (tC (.bl false)) (tNil)))) (tSl (rCut K) (tVar 2) (tPart (tOp (rPlus3 K) (tVar 8) (tC (.int 1)))) (tNoPart))) (gName 2)) (tNext)))) (tNext)) (tNext))))) (tSeq (tRet (tTup (tCons (tVar 2) (tCons (tCB (rTupC K) (tCons (tVar 4) (tNil))) (tNil))))) (tNext))))
theorem dv_trips_in {P : Program} {w : World} {K : PySem.W.Frag} {mg : Str → Option Value} {base : Heap} {C : Addr} {f : Addr} {cdv : Value} {A : Around} {outer : List Env} {s : Shared} {H : Hp} {E : XK} (T : Txf mg) (D_currents_in : FD P w K mg base 5 "currents_in" ps_currents_in (sp_currents_in K C)) (PP : PlP P w K mg base C) (hr : Room 5 (A.deeper (envOfC "trips_in" (defScope st_trips_in) s.heap.objs.size f cdv))) :
    PSs (cxOf CX0 P w K mg base nm_trips_in "trips_in" (defScope st_trips_in) f cdv A outer s H E).nox (defBody st_trips_in) (t_trips_in P w K C) := by
  have nd := sc_trips_in.nd
  have h : PSs (cxOf CX0 P w K mg base nm_trips_in "trips_in" (defScope st_trips_in) f cdv A outer s H E).nox (defBody st_trips_in) (tSeq (tAsg (tLst (tNil)) (gName 4)) (tSeq (tAsg (tLst (tCons (tC (.int 0)) (tNil))) (gName 5)) (tSeq (tWhile (tTest (tOp (rNeD K) (tVar 5) (tLst (tNil)))) (tSeq (tAsg (tCall (sp_currents_in K C) [] E0 (tCons (tVar 0) (tCons (tVar 1) (tCons (tVar 2) (tCons (tVar 3) (tNil)))))) (gName 6)) (tSeq (tAsg (tLc (iRng1 (tCons (tCB (rLenP K C) (tCons (tVar 0) (tNil))) (tNil))) (gName 7) (tTest (tOp (rI0 fun i j => .bl (decide (j < i))) (tOp (rIx K) (tVar 6) (tVar 7)) (tOp (rIx K) (SlX.tPropSl C (sp_rates K C) E0 (tVar 0)) (tVar 7)))) (tTup (tCons (tOp (rIx K) (SlX.tPropSl C (sp_rates K C) E0 (tVar 0)) (tVar 7)) (tCons (tOp (rI0 fun i j => .int (i - j)) (tC (.int 0)) (tVar 7)) (tNil)))) [7]) (gName 5)) (tSeq (tIfS (tTest (tOp (rNeD K) (tVar 5) (tLst (tNil)))) (tSeq (tAsg (tOp (rI0 fun i j => .int (i - j)) (tC (.int 0)) (tOp (rIx K) (tCB (rMinP K) (tCons (tVar 5) (tNil))) (tC (.int 1)))) (gName 8)) (tSeq (tDrop (tBM K "list" rAppend (tVar 4) (tCons (tVar 8) (tNil)))) (tSeq (tAsg (tOp (rPlus3 K) (tOp (rPlus3 K) (tSl (rCut K) (tVar 2) (tNoPart) (tPart (tVar 8))) (tTup (tCons (tC (.bl false)) (tNil)))) (tSl (rCut K) (tVar 2) (tPart (tOp (rPlus3 K) (tVar 8) (tC (.int 1)))) (tNoPart))) (gName 2)) (tNext)))) (tNext)) (tNext))))) (tSeq (tRet (tTup (tCons (tVar 2) (tCons (tCB (rTupC K) (tCons (tVar 4) (tNil))) (tNil))))) (tNext))))) := pss_cons (ps_set (i := 4) nd rfl (Or.inl rfl) (pe_lst (pa_nil))) (pss_cons (ps_set (i := 5) nd rfl (Or.inl rfl) (pe_lst (pa_cons (pe_int) (pa_nil)))) (pss_cons (ps_while PassesOwn.never (pt_cmpR (op_neD hr.units) (pv 5) (pe_lst (pa_nil)) (nomark _)) (pss_cons (ps_set (i := 6) nd rfl (Or.inr rfl) (pe_callD D_currents_in (hr.mono (by decide)) (by rfl) (pa_cons (pv 0) (pa_cons (pv 1) (pa_cons (pv 2) (pa_cons (pv 3) (pa_nil))))))) (pss_cons (ps_setLc (i := 5) (own := [("one", 7)]) rfl nd rfl rfl (sw_true rfl rfl rfl (by decide +kernel)) (pi_range1 (by rfl) T.f_range (pa_cons (pe_callB (call_lenP PP.len (hr.mono (by decide))) (by rfl) T.f_len (by decide +kernel) (pa_cons (pv 0) (pa_nil))) (pa_nil))) (blkOk_by (N := nm_trips_in) (sc := defScope st_trips_in) (own := [("one", 7)]) (by decide +kernel)) (fun _ _ _ _ _ => pg_name (i := 7) nd rfl (Or.inl rfl)) (fun _ _ _ _ _ => pts_one (pt_cmpR op_gt (pe_ix ix_seq (pv 6) (pv 7) (fun _ _ => rfl)) (pe_ix ix_seq (pe_propX PP.rates (hr.mono (by decide)) (pv 0)) (pv 7) (fun _ _ => rfl)) (nomark _))) (fun _ _ _ _ _ => pe_tup (pa_cons (pe_ix ix_seq (pe_propX PP.rates (hr.mono (by decide)) (pv 0)) (pv 7) (fun _ _ => rfl)) (pa_cons (pe_op op_sub (pe_int) (pv 7)) (pa_nil))))) (pss_cons (ps_if (pt_cmpR (op_neD hr.units) (pv 5) (pe_lst (pa_nil)) (nomark _)) (pss_cons (ps_set (i := 8) nd rfl (Or.inl rfl) (pe_op op_sub (pe_int) (pe_ix ix_seq (pe_callB (call_minP rfl hr.units) (by rfl) T.f_min (by decide +kernel) (pa_cons (pv 5) (pa_nil))) (pe_int) (fun _ _ => rfl)))) (pss_cons (ps_expr (pe_bm PySem.F.plainAttrs_list PySem.F.slot_list_append PySem.F.type_list_append mt_append (pv 4) (pa_cons (pv 8) (pa_nil)))) (pss_cons (ps_set (i := 2) nd rfl (Or.inl rfl) (pe_op op_plus3 (pe_op op_plus3 (pe_slice sl_cut (pv 2) (po_none) (po_some (pv 8))) (pe_tup (pa_cons (pe_bl) (pa_nil)))) (pe_slice sl_cut (pv 2) (po_some (pe_op op_plus3 (pv 8) (pe_int))) (po_none)))) (pss_nil)))) (pss_nil)) (pss_nil))))) (pss_cons (ps_ret (pe_tup (pa_cons (pv 2) (pa_cons (pe_callTy call_tupX (by rfl) T.f_tuple (by decide +kernel) (pa_cons (pv 4) (pa_nil))) (pa_nil))))) (pss_nil))))
  exact h
def t_names_on (P : Program) (w : World) (K : PySem.W.Frag) (C : Addr) : TS := tSeq (tRet (tCB (rTupC K) (tCons (tLc (iList K (tCB (rSortDk) (tCons (tVar 0) (tNil)))) (gName 3) (tOr (tB (tDNotIn (tVar 3) (tVar 1))) (tTest (tOp (rEqD K) (tOp (rI (fun _ j => 0 < j) fun i j => .int (i % j)) (tCB (rInt1) (tCons (tVar 2) (tNil))) (tOp (rIx K) (tDGet (tVar 1) (tVar 3)) (tC (.int 2)))) (tC (.int 0))))) (tVar 3) [3]) (tNil)))) (tNext)
theorem dv_names_on {P : Program} {w : World} {K : PySem.W.Frag} {mg : Str → Option Value} {base : Heap} {C : Addr} {f : Addr} {cdv : Value} {A : Around} {outer : List Env} {s : Shared} {H : Hp} {E : XK} (T : Txf mg) (hr : Room 0 (A.deeper (envOfC "names_on" (defScope st_names_on) s.heap.objs.size f cdv))) :
    PSs (cxOf CX0 P w K mg base nm_names_on "names_on" (defScope st_names_on) f cdv A outer s H E).nox (defBody st_names_on) (t_names_on P w K C) := by
  have nd := sc_names_on.nd
  have hu := hu_of hr
  have h : PSs (cxOf CX0 P w K mg base nm_names_on "names_on" (defScope st_names_on) f cdv A outer s H E).nox (defBody st_names_on) (tSeq (tRet (tCB (rTupC K) (tCons (tLc (iList K (tCB (rSortDk) (tCons (tVar 0) (tNil)))) (gName 3) (tOr (tB (tDNotIn (tVar 3) (tVar 1))) (tTest (tOp (rEqD K) (tOp (rI (fun _ j => 0 < j) fun i j => .int (i % j)) (tCB (rInt1) (tCons (tVar 2) (tNil))) (tOp (rIx K) (tDGet (tVar 1) (tVar 3)) (tC (.int 2)))) (tC (.int 0))))) (tVar 3) [3]) (tNil)))) (tNext)) := pss_cons (ps_ret (pe_callTy call_tupX (by rfl) T.f_tuple (by decide +kernel) (pa_cons (pe_lc (own := [("name", 3)]) rfl nd (pi_list (pe_callB (call_sortDk rfl) (by rfl) T.f_sorted (by decide +kernel) (pa_cons (pv 0) (pa_nil)))) (blkOk_by (N := nm_names_on) (sc := defScope st_names_on) (own := [("name", 3)]) (by decide +kernel)) (fun _ _ _ _ _ => pg_name (i := 3) nd rfl (Or.inl rfl)) (fun _ _ _ _ _ => pts_one (PW.pt (pw_or (pt_cmp (pc_dnotin hu (pv 3) (pv 1)) (by rfl)) (pw_or1 (pt_cmpR (op_eqD hr.units) (pe_op op_mod (pe_callTy call_intX (by rfl) T.f_int (by decide +kernel) (pa_cons (pv 2) (pa_nil))) (pe_ix ix_seq (pe_dget hu (pv 1) (pv 3) (fun _ _ => rfl)) (pe_int) (fun _ _ => rfl))) (pe_int) (nomark _)))))) (fun _ _ _ _ _ => pv 3)) (pa_nil)))) (pss_nil)
  exact h
def t_trips_until (P : Program) (w : World) (K : PySem.W.Frag) (C : Addr) : TS := tSeq (tDrop (tCall (sp_check_timed K C) [] E0 (tCons (tVar 0) (tCons (tVar 1) (tCons (tVar 2) (tCons (tVar 3) (tNil))))))) (tSeq (tDrop (tCall (sp_check_count K C) [] E0 (tCons (tVar 4) (tCons (tC (.int 1000000000000000000)) (tNil))))) (tSeq (tAsg (tCall (sp_day_rows K C) [] E0 (tCons (tVar 0) (tCons (tVar 1) (tCons (tVar 2) (tCons (tVar 3) (tNil)))))) (gName 5)) (tSeq (tPar 6 7 (tCons (tOp (rI CDiv fun i j => .int (i / j)) (tVar 4) (tCB (rLen K) (tCons (tVar 5) (tNil)))) (tCons (tOp (rI (fun _ j => 0 < j) fun i j => .int (i % j)) (tCB (rInt1) (tCons (tVar 4) (tNil))) (tCB (rLen K) (tCons (tVar 5) (tNil)))) tNil))) (tSeq (tAsg (tLst (tNil)) (gName 8)) (tSeq (tFor (iRng1 (tCons (tCB (rLenP K C) (tCons (tVar 0) (tNil))) (tNil))) (gName 9) (tSeq (tAsg (tLc (iList K (tVar 5)) (gName 10) (tYes) (tBM K "list" (rCount K) (tVar 10) (tCons (tVar 9) (tNil))) [10]) (gName 11)) (tSeq (tDrop (tBM K "list" rAppend (tVar 8) (tCons (tOp (rPlus3 K) (tOp (rI CMul fun i j => .int (i * j)) (tVar 6) (tCB (rSum K) (tCons (tVar 11) (tNil)))) (tCB (rSum K) (tCons (tSl (rCut K) (tVar 11) (tNoPart) (tPart (tVar 7))) (tNil)))) (tNil)))) (tNext)))) (tSeq (tRet (tCB (rTupC K) (tCons (tVar 8) (tNil)))) (tNext)))))))
theorem dv_trips_until {P : Program} {w : World} {K : PySem.W.Frag} {mg : Str → Option Value} {base : Heap} {C : Addr} {f : Addr} {cdv : Value} {A : Around} {outer : List Env} {s : Shared} {H : Hp} {E : XK} (T : Txf mg) (D_day_rows : FD P w K mg base 8 "day_rows" ps_day_rows (sp_day_rows K C)) (D_check_count : FD P w K mg base 2 "check_count" ps_check_count (sp_check_count K C)) (D_check_timed : FD P w K mg base 6 "check_timed" ps_check_timed (sp_check_timed K C)) (PP : PlP P w K mg base C) (hr : Room 8 (A.deeper (envOfC "trips_until" (defScope st_trips_until) s.heap.objs.size f cdv))) :
    PSs (cxOf CX0 P w K mg base nm_trips_until "trips_until" (defScope st_trips_until) f cdv A outer s H E).nox (defBody st_trips_until) (t_trips_until P w K C) := by
  have nd := sc_trips_until.nd
  have h : PSs (cxOf CX0 P w K mg base nm_trips_until "trips_until" (defScope st_trips_until) f cdv A outer s H E).nox (defBody st_trips_until) (tSeq (tDrop (tCall (sp_check_timed K C) [] E0 (tCons (tVar 0) (tCons (tVar 1) (tCons (tVar 2) (tCons (tVar 3) (tNil))))))) (tSeq (tDrop (tCall (sp_check_count K C) [] E0 (tCons (tVar 4) (tCons (tC (.int 1000000000000000000)) (tNil))))) (tSeq (tAsg (tCall (sp_day_rows K C) [] E0 (tCons (tVar 0) (tCons (tVar 1) (tCons (tVar 2) (tCons (tVar 3) (tNil)))))) (gName 5)) (tSeq (tPar 6 7 (tCons (tOp (rI CDiv fun i j => .int (i / j)) (tVar 4) (tCB (rLen K) (tCons (tVar 5) (tNil)))) (tCons (tOp (rI (fun _ j => 0 < j) fun i j => .int (i % j)) (tCB (rInt1) (tCons (tVar 4) (tNil))) (tCB (rLen K) (tCons (tVar 5) (tNil)))) tNil))) (tSeq (tAsg (tLst (tNil)) (gName 8)) (tSeq (tFor (iRng1 (tCons (tCB (rLenP K C) (tCons (tVar 0) (tNil))) (tNil))) (gName 9) (tSeq (tAsg (tLc (iList K (tVar 5)) (gName 10) (tYes) (tBM K "list" (rCount K) (tVar 10) (tCons (tVar 9) (tNil))) [10]) (gName 11)) (tSeq (tDrop (tBM K "list" rAppend (tVar 8) (tCons (tOp (rPlus3 K) (tOp (rI CMul fun i j => .int (i * j)) (tVar 6) (tCB (rSum K) (tCons (tVar 11) (tNil)))) (tCB (rSum K) (tCons (tSl (rCut K) (tVar 11) (tNoPart) (tPart (tVar 7))) (tNil)))) (tNil)))) (tNext)))) (tSeq (tRet (tCB (rTupC K) (tCons (tVar 8) (tNil)))) (tNext)))))))) := pss_cons (ps_expr (pe_callD D_check_timed (hr.mono (by decide)) (by rfl) (pa_cons (pv 0) (pa_cons (pv 1) (pa_cons (pv 2) (pa_cons (pv 3) (pa_nil))))))) (pss_cons (ps_expr (pe_callD D_check_count (hr.mono (by decide)) (by rfl) (pa_cons (pv 4) (pa_cons (pe_gI T.i_MAX_COUNT (by rfl)) (pa_nil))))) (pss_cons (ps_set (i := 5) nd rfl (Or.inl rfl) (pe_callD D_day_rows (hr.mono (by decide)) (by rfl) (pa_cons (pv 0) (pa_cons (pv 1) (pa_cons (pv 2) (pa_cons (pv 3) (pa_nil))))))) (pss_cons (ps_par (i := 6) (j := 7) rfl nd rfl rfl (by decide) rfl rfl (pa_cons (pe_op op_fdiv (pv 4) (pe_callB call_lenX (by rfl) T.f_len (by decide +kernel) (pa_cons (pv 5) (pa_nil)))) (pa_cons (pe_op op_mod (pe_callTy call_intX (by rfl) T.f_int (by decide +kernel) (pa_cons (pv 4) (pa_nil))) (pe_callB call_lenX (by rfl) T.f_len (by decide +kernel) (pa_cons (pv 5) (pa_nil)))) pa_nil)) (by rfl)) (pss_cons (ps_set (i := 8) nd rfl (Or.inl rfl) (pe_lst (pa_nil))) (pss_cons (ps_for PassesOwn.never rfl (pi_range1 (by rfl) T.f_range (pa_cons (pe_callB (call_lenP PP.len (hr.mono (by decide))) (by rfl) T.f_len (by decide +kernel) (pa_cons (pv 0) (pa_nil))) (pa_nil))) (pg_name (i := 9) nd rfl (Or.inr rfl)) (pss_cons (ps_setLc (i := 11) (own := [("row", 10)]) rfl nd rfl rfl (sw_true rfl rfl rfl (by decide +kernel)) (pi_list (pv 5)) (blkOk_by (N := nm_trips_until) (sc := defScope st_trips_until) (own := [("row", 10)]) (by decide +kernel)) (fun _ _ _ _ _ => pg_name (i := 10) nd rfl (Or.inl rfl)) (fun _ _ _ _ _ => pts_nil) (fun _ _ _ _ _ => pe_bm PySem.F.plainAttrs_list PySem.F.slot_list_count PySem.F.type_list_count mt_countX (pv 10) (pa_cons (pv 9) (pa_nil)))) (pss_cons (ps_expr (pe_bm PySem.F.plainAttrs_list PySem.F.slot_list_append PySem.F.type_list_append mt_append (pv 8) (pa_cons (pe_op op_plus3 (pe_op op_mul (pv 6) (pe_callB (cr_sum rfl) (by rfl) T.f_sum (by decide +kernel) (pa_cons (pv 11) (pa_nil)))) (pe_callB (cr_sum rfl) (by rfl) T.f_sum (by decide +kernel) (pa_cons (pe_slice sl_cut (pv 11) (po_none) (po_some (pv 7))) (pa_nil)))) (pa_nil)))) (pss_nil)))) (pss_cons (ps_ret (pe_callTy call_tupX (by rfl) T.f_tuple (by decide +kernel) (pa_cons (pv 8) (pa_nil)))) (pss_nil)))))))
  exact h
def t_shifted (P : Program) (w : World) (K : PySem.W.Frag) (C : Addr) : TS := tSeq (tAsg (tCB (rDictDk) (tCons (tVar 0) (tNil))) (gName 2)) (tSeq (tFor (iList K (tVar 1)) (gTup K 2 (gCons (gName 3) (gCons (gName 4) (gNil)))) (tSeq (tAsg (tDGet (tVar 0) (tVar 3)) (gTup K 3 (gCons (gName 5) (gCons (gName 6) (gCons (gName 7) (gNil)))))) (tSeq (tAsg (tTup (tCons (tVar 4) (tCons (tOp (rI0 fun i j => .int (i - j)) (tOp (rPlus3 K) (tVar 4) (tVar 6)) (tVar 5)) (tCons (tVar 7) (tNil))))) (gSub (tVar 2) (tVar 3) rSetL)) (tNext)))) (tSeq (tRet (tVar 2)) (tNext)))
theorem dv_shifted {P : Program} {w : World} {K : PySem.W.Frag} {mg : Str → Option Value} {base : Heap} {C : Addr} {f : Addr} {cdv : Value} {A : Around} {outer : List Env} {s : Shared} {H : Hp} {E : XK} (T : Txf mg) (hr : Room 0 (A.deeper (envOfC "shifted" (defScope st_shifted) s.heap.objs.size f cdv))) :
    PSs (cxOf CX0 P w K mg base nm_shifted "shifted" (defScope st_shifted) f cdv A outer s H E).nox (defBody st_shifted) (t_shifted P w K C) := by
  have nd := sc_shifted.nd
  have hu := hu_of hr
  have h : PSs (cxOf CX0 P w K mg base nm_shifted "shifted" (defScope st_shifted) f cdv A outer s H E).nox (defBody st_shifted) (tSeq (tAsg (tCB (rDictDk) (tCons (tVar 0) (tNil))) (gName 2)) (tSeq (tFor (iList K (tVar 1)) (gTup K 2 (gCons (gName 3) (gCons (gName 4) (gNil)))) (tSeq (tAsg (tDGet (tVar 0) (tVar 3)) (gTup K 3 (gCons (gName 5) (gCons (gName 6) (gCons (gName 7) (gNil)))))) (tSeq (tAsg (tTup (tCons (tVar 4) (tCons (tOp (rI0 fun i j => .int (i - j)) (tOp (rPlus3 K) (tVar 4) (tVar 6)) (tVar 5)) (tCons (tVar 7) (tNil))))) (gSub (tVar 2) (tVar 3) rSetL)) (tNext)))) (tSeq (tRet (tVar 2)) (tNext)))) := pss_cons (ps_set (i := 2) nd rfl (Or.inl rfl) (pe_callTy call_dictDk (by rfl) T.f_dict (by decide +kernel) (pa_cons (pv 0) (pa_nil)))) (pss_cons (ps_for PassesOwn.never rfl (pi_list (pv 1)) (pg_tup rfl (pgs_cons (pg_name (i := 3) nd rfl (Or.inl rfl)) (pgs_cons (pg_name (i := 4) nd rfl (Or.inl rfl)) (pgs_nil)))) (pss_cons (ps_asg (pe_dget hu (pv 0) (pv 3) (fun _ _ => rfl)) (pg_tup rfl (pgs_cons (pg_name (i := 5) nd rfl (Or.inl rfl)) (pgs_cons (pg_name (i := 6) nd rfl (Or.inl rfl)) (pgs_cons (pg_name (i := 7) nd rfl (Or.inl rfl)) (pgs_nil)))))) (pss_cons (ps_asg (pe_tup (pa_cons (pv 4) (pa_cons (pe_op op_sub (pe_op op_plus3 (pv 4) (pv 6)) (pv 5)) (pa_cons (pv 7) (pa_nil))))) (pg_sub (pv 2) (pv 3) set_list)) (pss_nil)))) (pss_cons (ps_ret (pv 2)) (pss_nil)))
  exact h
def t_all_shifts (P : Program) (w : World) (K : PySem.W.Frag) (C : Addr) : TS := tSeq (tAsg (tLst (tNil)) (gName 2)) (tSeq (tFor (iList K (tCB (rSortDk) (tCons (tVar 0) (tNil)))) (gName 3) (tSeq (tAsg (tDGet (tVar 0) (tVar 3)) (gTup K 3 (gCons (gName 4) (gCons (gName 5) (gCons (gName 6) (gNil)))))) (tSeq (tAsg (tLc (iRng1 (tCons (tOp (rPlus3 K) (tOp (rPlus3 K) (tOp (rI0 fun i j => .int (i - j)) (tC (.int 24)) (tVar 5)) (tVar 4)) (tC (.int 1))) (tNil))) (gName 7) (tTest (tOp (rNeD K) (tVar 7) (tVar 4))) (tVar 7) [7]) (gName 8)) (tSeq (tDrop (tBM K "list" rExtend (tVar 2) (tCons (tLc (iList K (tVar 8)) (gName 7) (tYes) (tTup (tCons (tVar 3) (tCons (tVar 7) (tNil)))) [7]) (tNil)))) (tNext))))) (tSeq (tAsg (tLst (tCons (tLst (tNil)) (tNil))) (gName 9)) (tSeq (tFor (iRng1 (tCons (tVar 1) (tNil))) (gName 10) (tSeq (tNever) (tNext))) (tSeq (tRet (tVar 9)) (tNext)))))
theorem dv_all_shifts {P : Program} {w : World} {K : PySem.W.Frag} {mg : Str → Option Value} {base : Heap} {C : Addr} {f : Addr} {cdv : Value} {A : Around} {outer : List Env} {s : Shared} {H : Hp} {E : XK} (T : Txf mg) (hr : Room 0 (A.deeper (envOfC "all_shifts" (defScope st_all_shifts) s.heap.objs.size f cdv))) :
    PSs (cxOf CX0 P w K mg base nm_all_shifts "all_shifts" (defScope st_all_shifts) f cdv A outer s H E).nox (defBody st_all_shifts) (t_all_shifts P w K C) := by
  have nd := sc_all_shifts.nd
  have hu := hu_of hr
  have h : PSs (cxOf CX0 P w K mg base nm_all_shifts "all_shifts" (defScope st_all_shifts) f cdv A outer s H E).nox (defBody st_all_shifts) (tSeq (tAsg (tLst (tNil)) (gName 2)) (tSeq (tFor (iList K (tCB (rSortDk) (tCons (tVar 0) (tNil)))) (gName 3) (tSeq (tAsg (tDGet (tVar 0) (tVar 3)) (gTup K 3 (gCons (gName 4) (gCons (gName 5) (gCons (gName 6) (gNil)))))) (tSeq (tAsg (tLc (iRng1 (tCons (tOp (rPlus3 K) (tOp (rPlus3 K) (tOp (rI0 fun i j => .int (i - j)) (tC (.int 24)) (tVar 5)) (tVar 4)) (tC (.int 1))) (tNil))) (gName 7) (tTest (tOp (rNeD K) (tVar 7) (tVar 4))) (tVar 7) [7]) (gName 8)) (tSeq (tDrop (tBM K "list" rExtend (tVar 2) (tCons (tLc (iList K (tVar 8)) (gName 7) (tYes) (tTup (tCons (tVar 3) (tCons (tVar 7) (tNil)))) [7]) (tNil)))) (tNext))))) (tSeq (tAsg (tLst (tCons (tLst (tNil)) (tNil))) (gName 9)) (tSeq (tFor (iRng1 (tCons (tVar 1) (tNil))) (gName 10) (tSeq (tNever) (tNext))) (tSeq (tRet (tVar 9)) (tNext)))))) := pss_cons (ps_set (i := 2) nd rfl (Or.inr rfl) (pe_lst (pa_nil))) (pss_cons (ps_for PassesOwn.never rfl (pi_list (pe_callB (call_sortDk rfl) (by rfl) T.f_sorted (by decide +kernel) (pa_cons (pv 0) (pa_nil)))) (pg_name (i := 3) nd rfl (Or.inr rfl)) (pss_cons (ps_asg (pe_dget hu (pv 0) (pv 3) (fun _ _ => rfl)) (pg_tup rfl (pgs_cons (pg_name (i := 4) nd rfl (Or.inr rfl)) (pgs_cons (pg_name (i := 5) nd rfl (Or.inl rfl)) (pgs_cons (pg_name (i := 6) nd rfl (Or.inl rfl)) (pgs_nil)))))) (pss_cons (ps_setLc (i := 8) (own := [("hour", 7)]) rfl nd rfl rfl (sw_true rfl rfl rfl (by decide +kernel)) (pi_range1 (by rfl) T.f_range (pa_cons (pe_op op_plus3 (pe_op op_plus3 (pe_op op_sub (pe_gI T.i_HOURS (by rfl)) (pv 5)) (pv 4)) (pe_int)) (pa_nil))) (blkOk_by (N := nm_all_shifts) (sc := defScope st_all_shifts) (own := [("hour", 7)]) (by decide +kernel)) (fun _ _ _ _ _ => pg_name (i := 7) nd rfl (Or.inl rfl)) (fun _ _ _ _ _ => pts_one (pt_cmpR (op_neD hr.units) (pv 7) (pv 4) (nomark _))) (fun _ _ _ _ _ => pv 7)) (pss_cons (ps_expr (pe_bm PySem.F.plainAttrs_list PySem.F.slot_list_extend PySem.F.type_list_extend mt_extend (pv 2) (pa_cons (pe_lc (own := [("hour", 7)]) rfl nd (pi_list (pv 8)) (blkOk_by (N := nm_all_shifts) (sc := defScope st_all_shifts) (own := [("hour", 7)]) (by decide +kernel)) (fun _ _ _ _ _ => pg_name (i := 7) nd rfl (Or.inl rfl)) (fun _ _ _ _ _ => pts_nil) (fun _ _ _ _ _ => pe_tup (pa_cons (pv 3) (pa_cons (pv 7) (pa_nil))))) (pa_nil)))) (pss_nil))))) (pss_cons (ps_set (i := 9) nd rfl (Or.inl rfl) (pe_lst (pa_cons (pe_lst (pa_nil)) (pa_nil)))) (pss_cons (ps_for PassesOwn.never rfl (pi_range1 (by rfl) T.f_range (pa_cons (pv 1) (pa_nil))) (pg_name (i := 10) nd rfl (Or.inl rfl)) (pss_cons (ps_never) (pss_nil))) (pss_cons (ps_ret (pv 9)) (pss_nil)))))
  exact h
def t__law_tripped (P : Program) (w : World) (K : PySem.W.Frag) (C : Addr) : TS := tSeq (tAsg (tLst (tNil)) (gName 4)) (tSeq (tFor (iRng1 (tCons (tC (.int 9)) (tNil))) (gName 5) (tSeq (tAsg (tCall (sp__law_flows K C) [] E0 (tCons (tVar 0) (tCons (tVar 1) (tCons (tVar 2) (tCons (tVar 3) (tNil)))))) (gName 6)) (tSeq (tAsg (tCB (rSortP K) (tCons (tLc (iRng1 (tCons (tCB (rLen K) (tCons (tVar 6) (tNil))) (tNil))) (gName 7) (tTest (tOp (rI0 fun i j => .bl (decide (j < i))) (tOp (rIx K) (tVar 6) (tVar 7)) (tOp (rIx K) (tOp (rIx K) (tVar 0) (tC (.int 0))) (tVar 7)))) (tTup (tCons (tOp (rIx K) (tOp (rIx K) (tVar 0) (tC (.int 0))) (tVar 7)) (tCons (tOp (rI0 fun i j => .int (i - j)) (tC (.int 0)) (tVar 7)) (tNil)))) [7]) (tNil))) (gName 8)) (tSeq (tIfS (tTest (tOp (rEqD K) (tVar 8) (tLst (tNil)))) (tSeq (tRet (tTup (tCons (tVar 2) (tCons (tCB (rTupC K) (tCons (tVar 4) (tNil))) (tNil))))) (tNext)) (tNext)) (tSeq (tAsg (tOp (rI0 fun i j => .int (i - j)) (tC (.int 0)) (tOp (rIx K) (tOp (rIx K) (tVar 8) (tC (.int 0))) (tC (.int 1)))) (gName 9)) (tSeq (tDrop (tBM K "list" rAppend (tVar 4) (tCons (tVar 9) (tNil)))) (tSeq (tAsg (tCB (rTupC K) (tCons (tLc (iRng1 (tCons (tCB (rLen K) (tCons (tVar 2) (tNil))) (tNil))) (gName 7) (tYes) (tAndV (tOp (rIx K) (tVar 2) (tVar 7)) (tOp (rNeD K) (tVar 7) (tVar 9))) [7]) (tNil))) (gName 2)) (tNext)))))))) (tSeq (tRet (tTup (tCons (tVar 2) (tCons (tCB (rTupC K) (tCons (tVar 4) (tNil))) (tNil))))) (tNext)))
theorem dv__law_tripped {P : Program} {w : World} {K : PySem.W.Frag} {mg : Str → Option Value} {base : Heap} {C : Addr} {f : Addr} {cdv : Value} {A : Around} {outer : List Env} {s : Shared} {H : Hp} {E : XK} (T : Txf mg) (D__law_flows : FD P w K mg base 3 "_law_flows" ps__law_flows (sp__law_flows K C)) (hr : Room 3 (A.deeper (envOfC "_law_tripped" (defScope st__law_tripped) s.heap.objs.size f cdv))) :
    PSs (cxOf CX0 P w K mg base nm__law_tripped "_law_tripped" (defScope st__law_tripped) f cdv A outer s H E).nox (defBody st__law_tripped) (t__law_tripped P w K C) := by
  have nd := sc__law_tripped.nd
  have h : PSs (cxOf CX0 P w K mg base nm__law_tripped "_law_tripped" (defScope st__law_tripped) f cdv A outer s H E).nox (defBody st__law_tripped) (tSeq (tAsg (tLst (tNil)) (gName 4)) (tSeq (tFor (iRng1 (tCons (tC (.int 9)) (tNil))) (gName 5) (tSeq (tAsg (tCall (sp__law_flows K C) [] E0 (tCons (tVar 0) (tCons (tVar 1) (tCons (tVar 2) (tCons (tVar 3) (tNil)))))) (gName 6)) (tSeq (tAsg (tCB (rSortP K) (tCons (tLc (iRng1 (tCons (tCB (rLen K) (tCons (tVar 6) (tNil))) (tNil))) (gName 7) (tTest (tOp (rI0 fun i j => .bl (decide (j < i))) (tOp (rIx K) (tVar 6) (tVar 7)) (tOp (rIx K) (tOp (rIx K) (tVar 0) (tC (.int 0))) (tVar 7)))) (tTup (tCons (tOp (rIx K) (tOp (rIx K) (tVar 0) (tC (.int 0))) (tVar 7)) (tCons (tOp (rI0 fun i j => .int (i - j)) (tC (.int 0)) (tVar 7)) (tNil)))) [7]) (tNil))) (gName 8)) (tSeq (tIfS (tTest (tOp (rEqD K) (tVar 8) (tLst (tNil)))) (tSeq (tRet (tTup (tCons (tVar 2) (tCons (tCB (rTupC K) (tCons (tVar 4) (tNil))) (tNil))))) (tNext)) (tNext)) (tSeq (tAsg (tOp (rI0 fun i j => .int (i - j)) (tC (.int 0)) (tOp (rIx K) (tOp (rIx K) (tVar 8) (tC (.int 0))) (tC (.int 1)))) (gName 9)) (tSeq (tDrop (tBM K "list" rAppend (tVar 4) (tCons (tVar 9) (tNil)))) (tSeq (tAsg (tCB (rTupC K) (tCons (tLc (iRng1 (tCons (tCB (rLen K) (tCons (tVar 2) (tNil))) (tNil))) (gName 7) (tYes) (tAndV (tOp (rIx K) (tVar 2) (tVar 7)) (tOp (rNeD K) (tVar 7) (tVar 9))) [7]) (tNil))) (gName 2)) (tNext)))))))) (tSeq (tRet (tTup (tCons (tVar 2) (tCons (tCB (rTupC K) (tCons (tVar 4) (tNil))) (tNil))))) (tNext)))) := pss_cons (ps_set (i := 4) nd rfl (Or.inl rfl) (pe_lst (pa_nil))) (pss_cons (ps_for PassesOwn.never rfl (pi_range1 (by rfl) T.f_range (pa_cons (pe_int) (pa_nil))) (pg_name (i := 5) nd rfl (Or.inl rfl)) (pss_cons (ps_set (i := 6) nd rfl (Or.inr rfl) (pe_callD D__law_flows (hr.mono (by decide)) (by rfl) (pa_cons (pv 0) (pa_cons (pv 1) (pa_cons (pv 2) (pa_cons (pv 3) (pa_nil))))))) (pss_cons (ps_set (i := 8) nd rfl (Or.inl rfl) (pe_callB (call_sortP hr.units) (by rfl) T.f_sorted (by decide +kernel) (pa_cons (pe_lc (own := [("_law_k", 7)]) rfl nd (pi_range1 (by rfl) T.f_range (pa_cons (pe_callB call_lenX (by rfl) T.f_len (by decide +kernel) (pa_cons (pv 6) (pa_nil))) (pa_nil))) (blkOk_by (N := nm__law_tripped) (sc := defScope st__law_tripped) (own := [("_law_k", 7)]) (by decide +kernel)) (fun _ _ _ _ _ => pg_name (i := 7) nd rfl (Or.inl rfl)) (fun _ _ _ _ _ => pts_one (pt_cmpR op_gt (pe_ix ix_seq (pv 6) (pv 7) (fun _ _ => rfl)) (pe_ix ix_seq (pe_ix ix_seq (pv 0) (pe_int) (fun _ _ => rfl)) (pv 7) (fun _ _ => rfl)) (nomark _))) (fun _ _ _ _ _ => pe_tup (pa_cons (pe_ix ix_seq (pe_ix ix_seq (pv 0) (pe_int) (fun _ _ => rfl)) (pv 7) (fun _ _ => rfl)) (pa_cons (pe_op op_sub (pe_int) (pv 7)) (pa_nil))))) (pa_nil)))) (pss_cons (ps_if (pt_cmpR (op_eqD hr.units) (pv 8) (pe_lst (pa_nil)) (nomark _)) (pss_cons (ps_ret (pe_tup (pa_cons (pv 2) (pa_cons (pe_callTy call_tupX (by rfl) T.f_tuple (by decide +kernel) (pa_cons (pv 4) (pa_nil))) (pa_nil))))) (pss_nil)) (pss_nil)) (pss_cons (ps_set (i := 9) nd rfl (Or.inr rfl) (pe_op op_sub (pe_int) (pe_ix ix_seq (pe_ix ix_seq (pv 8) (pe_int) (fun _ _ => rfl)) (pe_int) (fun _ _ => rfl)))) (pss_cons (ps_expr (pe_bm PySem.F.plainAttrs_list PySem.F.slot_list_append PySem.F.type_list_append mt_append (pv 4) (pa_cons (pv 9) (pa_nil)))) (pss_cons (ps_set (i := 2) nd rfl (Or.inr rfl) (pe_callTy call_tupX (by rfl) T.f_tuple (by decide +kernel) (pa_cons (pe_lc (own := [("_law_k", 7)]) rfl nd (pi_range1 (by rfl) T.f_range (pa_cons (pe_callB call_lenX (by rfl) T.f_len (by decide +kernel) (pa_cons (pv 2) (pa_nil))) (pa_nil))) (blkOk_by (N := nm__law_tripped) (sc := defScope st__law_tripped) (own := [("_law_k", 7)]) (by decide +kernel)) (fun _ _ _ _ _ => pg_name (i := 7) nd rfl (Or.inl rfl)) (fun _ _ _ _ _ => pts_nil) (fun _ _ _ _ _ => pe_and (pe_ix ix_seq (pv 2) (pv 7) (fun _ _ => rfl)) (pe_one (pe_cmpR (op_neD hr.units) (pv 7) (pv 9) (nomark _))))) (pa_nil)))) (pss_nil)))))))) (pss_cons (ps_ret (pe_tup (pa_cons (pv 2) (pa_cons (pe_callTy call_tupX (by rfl) T.f_tuple (by decide +kernel) (pa_cons (pv 4) (pa_nil))) (pa_nil))))) (pss_nil)))
  exact h
end Bf
set_option Elab.async false
set_option linter.all false
set_option maxRecDepth 100000
set_option maxHeartbeats 4000000
/-! The derivations of the defs' readings. Printed by mkdv.py. -/
namespace Bf
open PySem PyProof.Rows L2
def t_Plan___init__ (P : Program) (w : World) (K : PySem.W.Frag) (C : Addr) : TS := tSeq (tIfS (tNot (tB (tCall (sp_are_rates K C) [] E0 (tCons (tVar 1) (tNil))))) (tSeq (tNever) (tNext)) (tNext)) (tSeq (tIfS (tNot (tB (tCall (sp_are_above K C) [] E0 (tCons (tVar 2) (tCons (tCB (rLen K) (tCons (tVar 1) (tNil))) (tNil)))))) (tSeq (tNever) (tNext)) (tNext)) (tSeq (tIfS (tNot (tB (tCall (sp_are_points K C) [] E0 (tCons (tVar 3) (tNil))))) (tSeq (tNever) (tNext)) (tNext)) (tSeq (tIfS (tTest (tOp (rIn K true) (tVar 4) (tTup (tCons (tC (.str "free")) (tCons (tC (.str "rooms")) (tNil)))))) (tSeq (tNever) (tNext)) (tNext)) (tSeq (SlX.sSl K (tVar 0) (tTup (tCons (tVar 1) (tCons (tVar 2) (tCons (tVar 3) (tCons (tVar 4) (tNil)))))) "parts") (tNext)))))
theorem dv_Plan___init__ {P : Program} {w : World} {K : PySem.W.Frag} {mg : Str → Option Value} {base : Heap} {C : Addr} {f : Addr} {cdv : Value} {A : Around} {outer : List Env} {s : Shared} {H : Hp} {E : XK} (T : Txf mg) (D_are_points : FD P w K mg base 3 "are_points" ps_are_points (sp_are_points K C)) (D_are_above : FD P w K mg base 2 "are_above" ps_are_above (sp_are_above K C)) (D_are_rates : FD P w K mg base 2 "are_rates" ps_are_rates (sp_are_rates K C)) (hr : Room 3 (A.deeper (envOfC "Plan.__init__" (defScope st_Plan___init__) s.heap.objs.size f cdv))) :
    PSs (cxOf CX0 P w K mg base nm_Plan___init__ "Plan.__init__" (defScope st_Plan___init__) f cdv A outer s H E).nox (defBody st_Plan___init__) (t_Plan___init__ P w K C) := by
  have nd := sc_Plan___init__.nd
  have h : PSs (cxOf CX0 P w K mg base nm_Plan___init__ "Plan.__init__" (defScope st_Plan___init__) f cdv A outer s H E).nox (defBody st_Plan___init__) (tSeq (tIfS (tNot (tB (tCall (sp_are_rates K C) [] E0 (tCons (tVar 1) (tNil))))) (tSeq (tNever) (tNext)) (tNext)) (tSeq (tIfS (tNot (tB (tCall (sp_are_above K C) [] E0 (tCons (tVar 2) (tCons (tCB (rLen K) (tCons (tVar 1) (tNil))) (tNil)))))) (tSeq (tNever) (tNext)) (tNext)) (tSeq (tIfS (tNot (tB (tCall (sp_are_points K C) [] E0 (tCons (tVar 3) (tNil))))) (tSeq (tNever) (tNext)) (tNext)) (tSeq (tIfS (tTest (tOp (rIn K true) (tVar 4) (tTup (tCons (tC (.str "free")) (tCons (tC (.str "rooms")) (tNil)))))) (tSeq (tNever) (tNext)) (tNext)) (tSeq (SlX.sSl K (tVar 0) (tTup (tCons (tVar 1) (tCons (tVar 2) (tCons (tVar 3) (tCons (tVar 4) (tNil)))))) "parts") (tNext)))))) := pss_cons (ps_if (pt_not (pt_val (pe_callD D_are_rates (hr.mono (by decide)) (by rfl) (pa_cons (pv 1) (pa_nil))))) (pss_cons (ps_never) (pss_nil)) (pss_nil)) (pss_cons (ps_if (pt_not (pt_val (pe_callD D_are_above (hr.mono (by decide)) (by rfl) (pa_cons (pv 2) (pa_cons (pe_callB call_lenX (by rfl) T.f_len (by decide +kernel) (pa_cons (pv 1) (pa_nil))) (pa_nil)))))) (pss_cons (ps_never) (pss_nil)) (pss_nil)) (pss_cons (ps_if (pt_not (pt_val (pe_callD D_are_points (hr.mono (by decide)) (by rfl) (pa_cons (pv 3) (pa_nil))))) (pss_cons (ps_never) (pss_nil)) (pss_nil)) (pss_cons (ps_if (pt_cmpR op_notIn_seq (pv 4) (pe_tup (pa_cons (pe_gS T.s_FREE (by rfl)) (pa_cons (pe_gS T.s_ROOMS (by rfl)) (pa_nil)))) (by rfl)) (pss_cons (ps_never) (pss_nil)) (pss_nil)) (pss_cons (SlX.ps_sl (pv 0) (pe_tup (pa_cons (pv 1) (pa_cons (pv 2) (pa_cons (pv 3) (pa_cons (pv 4) (pa_nil))))))) (pss_nil)))))
  exact h
def t__law_plan (P : Program) (w : World) (K : PySem.W.Frag) (C : Addr) : TS := tSeq (tRet (StX.tMakeR C (sp_Plan___init__ K C) E0 (tCons (tOp (rIx K) (tVar 0) (tC (.int 0))) (tCons (tOp (rIx K) (tVar 0) (tC (.int 1))) (tCons (tOp (rIx K) (tVar 0) (tC (.int 2))) (tCons (tOp (rIx K) (tVar 0) (tC (.int 3))) (tNil))))))) (tNext)
theorem dv__law_plan {P : Program} {w : World} {K : PySem.W.Frag} {mg : Str → Option Value} {base : Heap} {C : Addr} {f : Addr} {cdv : Value} {A : Around} {outer : List Env} {s : Shared} {H : Hp} {E : XK} (T : Txf mg) (MM : MkX P w K mg base C 4 "Plan" (sp_Plan___init__ K C)) (hr : Room 5 (A.deeper (envOfC "_law_plan" (defScope st__law_plan) s.heap.objs.size f cdv))) :
    PSs (cxOf CX0 P w K mg base nm__law_plan "_law_plan" (defScope st__law_plan) f cdv A outer s H E).nox (defBody st__law_plan) (t__law_plan P w K C) := by
  have nd := sc__law_plan.nd
  have h : PSs (cxOf CX0 P w K mg base nm__law_plan "_law_plan" (defScope st__law_plan) f cdv A outer s H E).nox (defBody st__law_plan) (tSeq (tRet (StX.tMakeR C (sp_Plan___init__ K C) E0 (tCons (tOp (rIx K) (tVar 0) (tC (.int 0))) (tCons (tOp (rIx K) (tVar 0) (tC (.int 1))) (tCons (tOp (rIx K) (tVar 0) (tC (.int 2))) (tCons (tOp (rIx K) (tVar 0) (tC (.int 3))) (tNil))))))) (tNext)) := pss_cons (ps_ret (pe_makeX MM (hr.mono (by decide)) (by rfl) (pa_cons (pe_ix ix_seq (pv 0) (pe_int) (fun _ _ => rfl)) (pa_cons (pe_ix ix_seq (pv 0) (pe_int) (fun _ _ => rfl)) (pa_cons (pe_ix ix_seq (pv 0) (pe_int) (fun _ _ => rfl)) (pa_cons (pe_ix ix_seq (pv 0) (pe_int) (fun _ _ => rfl)) (pa_nil))))))) (pss_nil)
  exact h
def t_Quiet___init__ (P : Program) (w : World) (K : PySem.W.Frag) (C : Addr) : TS := tSeq (sFld K (tVar 0) (tVar 1) "plan") (tSeq (sFld K (tVar 0) (tVar 2) "wiring") (tSeq (sFld K (tVar 0) (tVar 3) "loads") (tSeq (tAsg (tLstRg (tRg1 (tCall (sp_length_of K C) [] E0 (tCons (tVar 4) (tNil))))) (gName 5)) (tSeq (sFld K (tVar 0) (tCB (rSortSet K P w) (tCons (tCB (rSetT K P w) (tCons (tLc (iList K (tVar 5)) (gName 6) (tYes) (tCall (sp_names_on K C) [] E0 (tCons (tVar 3) (tCons (tVar 4) (tCons (tVar 6) (tNil))))) [6]) (tNil))) (tNil))) "kinds") (tSeq (sFld K (tVar 0) (tDNewT) "known") (tNext))))))
theorem dv_Quiet___init__ {P : Program} {w : World} {K : PySem.W.Frag} {mg : Str → Option Value} {base : Heap} {C : Addr} {f : Addr} {cdv : Value} {A : Around} {outer : List Env} {s : Shared} {H : Hp} {E : XK} (T : Txf mg) (D_names_on : FD P w K mg base 1 "names_on" ps_names_on (sp_names_on K C)) (D_length_of : FD P w K mg base 1 "length_of" ps_length_of (sp_length_of K C)) (hr : Room 1 (A.deeper (envOfC "Quiet.__init__" (defScope st_Quiet___init__) s.heap.objs.size f cdv))) :
    PSs (cxOf CX0 P w K mg base nm_Quiet___init__ "Quiet.__init__" (defScope st_Quiet___init__) f cdv A outer s H E).nox (defBody st_Quiet___init__) (t_Quiet___init__ P w K C) := by
  have nd := sc_Quiet___init__.nd
  have h : PSs (cxOf CX0 P w K mg base nm_Quiet___init__ "Quiet.__init__" (defScope st_Quiet___init__) f cdv A outer s H E).nox (defBody st_Quiet___init__) (tSeq (sFld K (tVar 0) (tVar 1) "plan") (tSeq (sFld K (tVar 0) (tVar 2) "wiring") (tSeq (sFld K (tVar 0) (tVar 3) "loads") (tSeq (tAsg (tLstRg (tRg1 (tCall (sp_length_of K C) [] E0 (tCons (tVar 4) (tNil))))) (gName 5)) (tSeq (sFld K (tVar 0) (tCB (rSortSet K P w) (tCons (tCB (rSetT K P w) (tCons (tLc (iList K (tVar 5)) (gName 6) (tYes) (tCall (sp_names_on K C) [] E0 (tCons (tVar 3) (tCons (tVar 4) (tCons (tVar 6) (tNil))))) [6]) (tNil))) (tNil))) "kinds") (tSeq (sFld K (tVar 0) (tDNewT) "known") (tNext))))))) := pss_cons (ps_fld (pv 0) (pv 1) rfl) (pss_cons (ps_fld (pv 0) (pv 2) rfl) (pss_cons (ps_fld (pv 0) (pv 3) rfl) (pss_cons (ps_set (i := 5) nd rfl (Or.inl rfl) (pe_listRg rfl (by rfl) T.f_list (prg_1 (by rfl) T.f_range (pe_callD D_length_of (hr.mono (by decide)) (by rfl) (pa_cons (pv 4) (pa_nil)))))) (pss_cons (ps_fld (pv 0) (pe_callB (call_sortSet rfl hr.units) (by rfl) T.f_sorted (by decide +kernel) (pa_cons (pe_callTy (call_setT rfl hr.units) (by rfl) T.f_set (by decide +kernel) (pa_cons (pe_lc (own := [("number", 6)]) rfl nd (pi_list (pv 5)) (blkOk_by (N := nm_Quiet___init__) (sc := defScope st_Quiet___init__) (own := [("number", 6)]) (by decide +kernel)) (fun _ _ _ _ _ => pg_name (i := 6) nd rfl (Or.inl rfl)) (fun _ _ _ _ _ => pts_nil) (fun _ _ _ _ _ => pe_callD D_names_on (hr.mono (by decide)) (by rfl) (pa_cons (pv 3) (pa_cons (pv 4) (pa_cons (pv 6) (pa_nil)))))) (pa_nil))) (pa_nil))) rfl) (pss_cons (ps_fld (pv 0) (pe_dnewT) rfl) (pss_nil))))))
  exact h
def t_Quiet_does_run (P : Program) (w : World) (K : PySem.W.Frag) (C : Addr) : TS := tSeq (tAsg (tCB (rTupDk) (tCons (tVar 1) (tNil))) (gName 2)) (tSeq (tIfS (tB (tDNotIn (tVar 2) (tFld K (tVar 0) "known"))) (tSeq (sDPut (tFld K (tVar 0) "known") (tVar 2) (tCall (sp_does_run K C) [] E0 (tCons (tFld K (tVar 0) "plan") (tCons (tFld K (tVar 0) "wiring") (tCons (tVar 1) (tNil)))))) (tNext)) (tNext)) (tSeq (tRet (tDGet (tFld K (tVar 0) "known") (tVar 2))) (tNext)))
theorem dv_Quiet_does_run {P : Program} {w : World} {K : PySem.W.Frag} {mg : Str → Option Value} {base : Heap} {C : Addr} {f : Addr} {cdv : Value} {A : Around} {outer : List Env} {s : Shared} {H : Hp} {E : XK} (T : Txf mg) (D_does_run_running : FD P w K mg base 7 "does_run_running" ps_does_run (sp_does_run K C)) (hr : Room 7 (A.deeper (envOfC "Quiet.does_run" (defScope st_Quiet_does_run) s.heap.objs.size f cdv))) :
    PSs (cxOf CX0 P w K mg base nm_Quiet_does_run "Quiet.does_run" (defScope st_Quiet_does_run) f cdv A outer s H E).nox (defBody st_Quiet_does_run) (t_Quiet_does_run P w K C) := by
  have nd := sc_Quiet_does_run.nd
  have hu := hu_of hr
  have h : PSs (cxOf CX0 P w K mg base nm_Quiet_does_run "Quiet.does_run" (defScope st_Quiet_does_run) f cdv A outer s H E).nox (defBody st_Quiet_does_run) (tSeq (tAsg (tCB (rTupDk) (tCons (tVar 1) (tNil))) (gName 2)) (tSeq (tIfS (tB (tDNotIn (tVar 2) (tFld K (tVar 0) "known"))) (tSeq (sDPut (tFld K (tVar 0) "known") (tVar 2) (tCall (sp_does_run K C) [] E0 (tCons (tFld K (tVar 0) "plan") (tCons (tFld K (tVar 0) "wiring") (tCons (tVar 1) (tNil)))))) (tNext)) (tNext)) (tSeq (tRet (tDGet (tFld K (tVar 0) "known") (tVar 2))) (tNext)))) := pss_cons (ps_set (i := 2) nd rfl (Or.inl rfl) (pe_callTy (call_tupDk rfl) (by rfl) T.f_tuple (by decide +kernel) (pa_cons (pv 1) (pa_nil)))) (pss_cons (ps_if (pt_cmp (pc_dnotin hu (pv 2) (pe_fld (pv 0) rfl)) (by rfl)) (pss_cons (ps_dput hu (pe_fld (pv 0) rfl) (pv 2) (pe_callD D_does_run_running (hr.mono (by decide)) (by rfl) (pa_cons (pe_fld (pv 0) rfl) (pa_cons (pe_fld (pv 0) rfl) (pa_cons (pv 1) (pa_nil))))) rfl) (pss_nil)) (pss_nil)) (pss_cons (ps_ret (pe_dget hu (pe_fld (pv 0) rfl) (pv 2) (fun _ _ => rfl))) (pss_nil)))
  exact h
def t_Quiet_is_quiet (P : Program) (w : World) (K : PySem.W.Frag) (C : Addr) (CQ : Addr) : TS := tSeq (tFor (iList K (tFld K (tVar 0) "kinds")) (gName 2) (tSeq (tIfS (tNot (tB (tCB (rAll K) (tCons (tLc (iRng1 (tCons (tC (.int 24)) (tNil))) (gName 3) (tYes) (tMethR CQ "does_run" (sp_Quiet_does_run K C CQ) E0 (tVar 0) (tCons (tCall (sp_loads_at K C) [] E0 (tCons (tFld K (tVar 0) "loads") (tCons (tVar 1) (tCons (tVar 2) (tCons (tVar 3) (tNil)))))) (tNil))) [3]) (tNil))))) (tSeq (tRet (tC (.bl false))) (tNext)) (tNext)) (tNext))) (tSeq (tRet (tC (.bl true))) (tNext))
theorem dv_Quiet_is_quiet {P : Program} {w : World} {K : PySem.W.Frag} {mg : Str → Option Value} {base : Heap} {C : Addr} {CQ : Addr} {f : Addr} {cdv : Value} {A : Around} {outer : List Env} {s : Shared} {H : Hp} {E : XK} (T : Txf mg) (D_loads_at : FD P w K mg base 1 "loads_at" ps_loads_at (sp_loads_at K C)) (M_does_run : MeX P w K mg base CQ 8 "does_run" (sp_Quiet_does_run K C CQ)) (hr : Room 8 (A.deeper (envOfC "Quiet.is_quiet" (defScope st_Quiet_is_quiet) s.heap.objs.size f cdv))) :
    PSs (cxOf CX0 P w K mg base nm_Quiet_is_quiet "Quiet.is_quiet" (defScope st_Quiet_is_quiet) f cdv A outer s H E).nox (defBody st_Quiet_is_quiet) (t_Quiet_is_quiet P w K C CQ) := by
  have nd := sc_Quiet_is_quiet.nd
  have h : PSs (cxOf CX0 P w K mg base nm_Quiet_is_quiet "Quiet.is_quiet" (defScope st_Quiet_is_quiet) f cdv A outer s H E).nox (defBody st_Quiet_is_quiet) (tSeq (tFor (iList K (tFld K (tVar 0) "kinds")) (gName 2) (tSeq (tIfS (tNot (tB (tCB (rAll K) (tCons (tLc (iRng1 (tCons (tC (.int 24)) (tNil))) (gName 3) (tYes) (tMethR CQ "does_run" (sp_Quiet_does_run K C CQ) E0 (tVar 0) (tCons (tCall (sp_loads_at K C) [] E0 (tCons (tFld K (tVar 0) "loads") (tCons (tVar 1) (tCons (tVar 2) (tCons (tVar 3) (tNil)))))) (tNil))) [3]) (tNil))))) (tSeq (tRet (tC (.bl false))) (tNext)) (tNext)) (tNext))) (tSeq (tRet (tC (.bl true))) (tNext))) := pss_cons (ps_for PassesOwn.never rfl (pi_list (pe_fld (pv 0) rfl)) (pg_name (i := 2) nd rfl (Or.inr rfl)) (pss_cons (ps_if (pt_not (pt_val (pe_callB (cr_all rfl) (by rfl) T.f_all (by decide +kernel) (pa_cons (pe_lc (own := [("hour", 3)]) rfl nd (pi_range1 (by rfl) T.f_range (pa_cons (pe_gI T.i_HOURS (by rfl)) (pa_nil))) (blkOk_by (N := nm_Quiet_is_quiet) (sc := defScope st_Quiet_is_quiet) (own := [("hour", 3)]) (by decide +kernel)) (fun _ _ _ _ _ => pg_name (i := 3) nd rfl (Or.inl rfl)) (fun _ _ _ _ _ => pts_nil) (fun _ _ _ _ _ => pe_methX M_does_run (hr.mono (by decide)) (pv 0) (pa_cons (pe_callD D_loads_at (hr.mono (by decide)) (by rfl) (pa_cons (pe_fld (pv 0) rfl) (pa_cons (pv 1) (pa_cons (pv 2) (pa_cons (pv 3) (pa_nil)))))) (pa_nil)))) (pa_nil))))) (pss_cons (ps_ret (pe_bl)) (pss_nil)) (pss_nil)) (pss_nil))) (pss_cons (ps_ret (pe_bl)) (pss_nil))
  exact h
def t_fewest_shifts (P : Program) (w : World) (K : PySem.W.Frag) (C : Addr) (CQ : Addr) : TS := tSeq (tDrop (tCall (sp_check_timed K C) [] E0 (tCons (tVar 0) (tCons (tVar 1) (tCons (tVar 2) (tCons (tVar 3) (tNil))))))) (tSeq (tDrop (tCall (sp_check_count K C) [] E0 (tCons (tVar 4) (tCons (tC (.int 2)) (tNil))))) (tSeq (tAsg (StX.tMakeR CQ (sp_Quiet___init__ K C CQ) E0 (tCons (tVar 0) (tCons (tVar 1) (tCons (tVar 2) (tCons (tVar 3) (tNil)))))) (gName 5)) (tSeq (tFor (iRng1 (tCons (tOp (rPlus3 K) (tVar 4) (tC (.int 1))) (tNil))) (gName 6) (tSeq (tFor (iList K (tCall (sp_all_shifts K C) [] E0 (tCons (tVar 3) (tCons (tVar 6) (tNil))))) (gName 7) (tSeq (tIfS (tB (tMethR CQ "is_quiet" (sp_Quiet_is_quiet K C CQ) E0 (tVar 5) (tCons (tCall (sp_shifted K C) [] E0 (tCons (tVar 3) (tCons (tVar 7) (tNil)))) (tNil)))) (tSeq (tRet (tVar 7)) (tNext)) (tNext)) (tNext))) (tNext))) (tSeq (tRet (tC .non)) (tNext)))))
theorem dv_fewest_shifts {P : Program} {w : World} {K : PySem.W.Frag} {mg : Str → Option Value} {base : Heap} {C : Addr} {CQ : Addr} {f : Addr} {cdv : Value} {A : Around} {outer : List Env} {s : Shared} {H : Hp} {E : XK} (T : Txf mg) (D_all_shifts : FD P w K mg base 1 "all_shifts" ps_all_shifts (sp_all_shifts K C)) (D_shifted : FD P w K mg base 1 "shifted" ps_shifted (sp_shifted K C)) (D_check_count : FD P w K mg base 2 "check_count" ps_check_count (sp_check_count K C)) (D_check_timed : FD P w K mg base 6 "check_timed" ps_check_timed (sp_check_timed K C)) (MQ : MkX P w K mg base CQ 2 "Quiet" (sp_Quiet___init__ K C CQ)) (M_is_quiet : MeX P w K mg base CQ 9 "is_quiet" (sp_Quiet_is_quiet K C CQ)) (hr : Room 9 (A.deeper (envOfC "fewest_shifts" (defScope st_fewest_shifts) s.heap.objs.size f cdv))) :
    PSs (cxOf CX0 P w K mg base nm_fewest_shifts "fewest_shifts" (defScope st_fewest_shifts) f cdv A outer s H E).nox (defBody st_fewest_shifts) (t_fewest_shifts P w K C CQ) := by
  have nd := sc_fewest_shifts.nd
  have h : PSs (cxOf CX0 P w K mg base nm_fewest_shifts "fewest_shifts" (defScope st_fewest_shifts) f cdv A outer s H E).nox (defBody st_fewest_shifts) (tSeq (tDrop (tCall (sp_check_timed K C) [] E0 (tCons (tVar 0) (tCons (tVar 1) (tCons (tVar 2) (tCons (tVar 3) (tNil))))))) (tSeq (tDrop (tCall (sp_check_count K C) [] E0 (tCons (tVar 4) (tCons (tC (.int 2)) (tNil))))) (tSeq (tAsg (StX.tMakeR CQ (sp_Quiet___init__ K C CQ) E0 (tCons (tVar 0) (tCons (tVar 1) (tCons (tVar 2) (tCons (tVar 3) (tNil)))))) (gName 5)) (tSeq (tFor (iRng1 (tCons (tOp (rPlus3 K) (tVar 4) (tC (.int 1))) (tNil))) (gName 6) (tSeq (tFor (iList K (tCall (sp_all_shifts K C) [] E0 (tCons (tVar 3) (tCons (tVar 6) (tNil))))) (gName 7) (tSeq (tIfS (tB (tMethR CQ "is_quiet" (sp_Quiet_is_quiet K C CQ) E0 (tVar 5) (tCons (tCall (sp_shifted K C) [] E0 (tCons (tVar 3) (tCons (tVar 7) (tNil)))) (tNil)))) (tSeq (tRet (tVar 7)) (tNext)) (tNext)) (tNext))) (tNext))) (tSeq (tRet (tC .non)) (tNext)))))) := pss_cons (ps_expr (pe_callD D_check_timed (hr.mono (by decide)) (by rfl) (pa_cons (pv 0) (pa_cons (pv 1) (pa_cons (pv 2) (pa_cons (pv 3) (pa_nil))))))) (pss_cons (ps_expr (pe_callD D_check_count (hr.mono (by decide)) (by rfl) (pa_cons (pv 4) (pa_cons (pe_gI T.i_MAX_SHIFTS (by rfl)) (pa_nil))))) (pss_cons (ps_set (i := 5) nd rfl (Or.inl rfl) (pe_makeX MQ (hr.mono (by decide)) (by rfl) (pa_cons (pv 0) (pa_cons (pv 1) (pa_cons (pv 2) (pa_cons (pv 3) (pa_nil))))))) (pss_cons (ps_for PassesOwn.never rfl (pi_range1 (by rfl) T.f_range (pa_cons (pe_op op_plus3 (pv 4) (pe_int)) (pa_nil))) (pg_name (i := 6) nd rfl (Or.inl rfl)) (pss_cons (ps_for PassesOwn.never rfl (pi_list (pe_callD D_all_shifts (hr.mono (by decide)) (by rfl) (pa_cons (pv 3) (pa_cons (pv 6) (pa_nil))))) (pg_name (i := 7) nd rfl (Or.inl rfl)) (pss_cons (ps_if (pt_val (pe_methX M_is_quiet (hr.mono (by decide)) (pv 5) (pa_cons (pe_callD D_shifted (hr.mono (by decide)) (by rfl) (pa_cons (pv 3) (pa_cons (pv 7) (pa_nil)))) (pa_nil)))) (pss_cons (ps_ret (pv 7)) (pss_nil)) (pss_nil)) (pss_nil))) (pss_nil))) (pss_cons (ps_ret (pe_non)) (pss_nil)))))
  exact h
end Bf
set_option Elab.async false
set_option linter.all false
set_option maxRecDepth 100000
set_option maxHeartbeats 4000000
/-! The derivations of the defs' readings. Printed by mkdv.py. -/
namespace Bf
open PySem PyProof.Rows L2
def t__law_day (P : Program) (w : World) (K : PySem.W.Frag) (C : Addr) : TS := tSeq (tPar 5 6 (tCons (tOp (rRepA K) (tTup (tCons (tC (.bl true)) (tNil))) (tCB (rLen K) (tCons (tOp (rIx K) (tVar 0) (tC (.int 0))) (tNil)))) (tCons (tLst (tNil)) tNil))) (tSeq (tFor (iRng1 (tCons (tC (.int 24)) (tNil))) (gName 7) (tSeq (tAsg (tDNewK) (gName 8)) (tSeq (tLock (tFor (iKeys (tVar 2)) (gName 9) (tSeq (tAsg (tDGet2 (tVar 3) (tVar 9) (tTup (tCons (tC (.int 0)) (tCons (tC (.int 24)) (tCons (tC (.int 1)) (tNil)))))) (gName 10)) (tSeq (tIfS (tAnd (tTest (tOp (rEqD K) (tOp (rI (fun _ j => 0 < j) fun i j => .int (i % j)) (tVar 4) (tOp (rIx K) (tVar 10) (tC (.int 2)))) (tC (.int 0)))) (tTest (tChain (rI0 fun i j => .bl (decide (i ≤ j))) (rI0 fun i j => .bl (decide (i < j))) (tOp (rIx K) (tVar 10) (tC (.int 0))) (tVar 7) (tOp (rIx K) (tVar 10) (tC (.int 1)))))) (tSeq (sDPut (tVar 8) (tVar 9) (tDGet (tVar 2) (tVar 9))) (tNext)) (tNext)) (tNext))))) (tSeq (tAsg (tCall (sp__law_tripped K C) [] E0 (tCons (tVar 0) (tCons (tVar 1) (tCons (tVar 5) (tCons (tVar 8) (tNil)))))) (gTup K 2 (gCons (gName 5) (gCons (gName 11) (gNil))))) (tSeq (tAsg (tOp (rPlus3 K) (tVar 6) (tLc (iTup K (tVar 11)) (gName 12) (tYes) (tTup (tCons (tVar 7) (tCons (tVar 12) (tNil)))) [12])) (gName 6)) (tNext)))))) (tSeq (tRet (tVar 6)) (tNext)))
theorem dv__law_day {P : Program} {w : World} {K : PySem.W.Frag} {mg : Str → Option Value} {base : Heap} {C : Addr} {f : Addr} {cdv : Value} {A : Around} {outer : List Env} {s : Shared} {H : Hp} {E : XK} (T : Txf mg) (D__law_tripped : FD P w K mg base 4 "_law_tripped" ps__law_tripped (sp__law_tripped K C)) (hr : Room 4 (A.deeper (envOfC "_law_day" (defScope st__law_day) s.heap.objs.size f cdv))) :
    PSs (cxOf CX0 P w K mg base nm__law_day "_law_day" (defScope st__law_day) f cdv A outer s H E).nox (defBody st__law_day) (t__law_day P w K C) := by
  have nd := sc__law_day.nd
  have hu := hu_of hr
  have h : PSs (cxOf CX0 P w K mg base nm__law_day "_law_day" (defScope st__law_day) f cdv A outer s H E).nox (defBody st__law_day) (tSeq (tPar 5 6 (tCons (tOp (rRepA K) (tTup (tCons (tC (.bl true)) (tNil))) (tCB (rLen K) (tCons (tOp (rIx K) (tVar 0) (tC (.int 0))) (tNil)))) (tCons (tLst (tNil)) tNil))) (tSeq (tFor (iRng1 (tCons (tC (.int 24)) (tNil))) (gName 7) (tSeq (tAsg (tDNewK) (gName 8)) (tSeq (tLock (tFor (iKeys (tVar 2)) (gName 9) (tSeq (tAsg (tDGet2 (tVar 3) (tVar 9) (tTup (tCons (tC (.int 0)) (tCons (tC (.int 24)) (tCons (tC (.int 1)) (tNil)))))) (gName 10)) (tSeq (tIfS (tAnd (tTest (tOp (rEqD K) (tOp (rI (fun _ j => 0 < j) fun i j => .int (i % j)) (tVar 4) (tOp (rIx K) (tVar 10) (tC (.int 2)))) (tC (.int 0)))) (tTest (tChain (rI0 fun i j => .bl (decide (i ≤ j))) (rI0 fun i j => .bl (decide (i < j))) (tOp (rIx K) (tVar 10) (tC (.int 0))) (tVar 7) (tOp (rIx K) (tVar 10) (tC (.int 1)))))) (tSeq (sDPut (tVar 8) (tVar 9) (tDGet (tVar 2) (tVar 9))) (tNext)) (tNext)) (tNext))))) (tSeq (tAsg (tCall (sp__law_tripped K C) [] E0 (tCons (tVar 0) (tCons (tVar 1) (tCons (tVar 5) (tCons (tVar 8) (tNil)))))) (gTup K 2 (gCons (gName 5) (gCons (gName 11) (gNil))))) (tSeq (tAsg (tOp (rPlus3 K) (tVar 6) (tLc (iTup K (tVar 11)) (gName 12) (tYes) (tTup (tCons (tVar 7) (tCons (tVar 12) (tNil)))) [12])) (gName 6)) (tNext)))))) (tSeq (tRet (tVar 6)) (tNext)))) := pss_cons (ps_par (i := 5) (j := 6) rfl nd rfl rfl (by decide) rfl rfl (pa_cons (pe_op op_repA (pe_tup (pa_cons (pe_bl) (pa_nil))) (pe_callB call_lenX (by rfl) T.f_len (by decide +kernel) (pa_cons (pe_ix ix_seq (pv 0) (pe_int) (fun _ _ => rfl)) (pa_nil)))) (pa_cons (pe_lst (pa_nil)) pa_nil)) (by rfl)) (pss_cons (ps_for PassesOwn.never rfl (pi_range1 (by rfl) T.f_range (pa_cons (pe_int) (pa_nil))) (pg_name (i := 7) nd rfl (Or.inr rfl)) (pss_cons (ps_set (i := 8) nd rfl (Or.inl rfl) (pe_dnewK)) (pss_cons (ps_lock (ps_for PassesOwn.never rfl (pi_keys (pv 2)) (pg_name (i := 9) nd rfl (Or.inl rfl)) (pss_cons (ps_set (i := 10) nd rfl (Or.inl rfl) (pe_dget2 hu (pv 3) (pv 9) (pe_tup (pa_cons (pe_int) (pa_cons (pe_int) (pa_cons (pe_int) (pa_nil))))) ⟨rfl, rfl, rfl, rfl⟩)) (pss_cons (ps_if (PW.pt (pw_and (pt_cmpR (op_eqD hr.units) (pe_op op_mod (pv 4) (pe_ix ix_seq (pv 10) (pe_int) (fun _ _ => rfl))) (pe_int) (nomark _)) (pw_and1 (pt_chain op_le op_lt (pe_ix ix_seq (pv 10) (pe_int) (fun _ _ => rfl)) (pv 7) (pe_ix ix_seq (pv 10) (pe_int) (fun _ _ => rfl)))))) (pss_cons (ps_dput hu (pv 8) (pv 9) (pe_dget hu (pv 2) (pv 9) (fun _ _ => rfl)) rfl) (pss_nil)) (pss_nil)) (pss_nil))))) (pss_cons (ps_asg (pe_callD D__law_tripped (hr.mono (by decide)) (by rfl) (pa_cons (pv 0) (pa_cons (pv 1) (pa_cons (pv 5) (pa_cons (pv 8) (pa_nil)))))) (pg_tup rfl (pgs_cons (pg_name (i := 5) nd rfl (Or.inl rfl)) (pgs_cons (pg_name (i := 11) nd rfl (Or.inl rfl)) (pgs_nil))))) (pss_cons (ps_set (i := 6) nd rfl (Or.inl rfl) (pe_op op_plus3 (pv 6) (pe_lc (own := [("_law_breaker", 12)]) rfl nd (pi_tup (pv 11)) (blkOk_by (N := nm__law_day) (sc := defScope st__law_day) (own := [("_law_breaker", 12)]) (by decide +kernel)) (fun _ _ _ _ _ => pg_name (i := 12) nd rfl (Or.inl rfl)) (fun _ _ _ _ _ => pts_nil) (fun _ _ _ _ _ => pe_tup (pa_cons (pv 7) (pa_cons (pv 12) (pa_nil))))))) (pss_nil)))))) (pss_cons (ps_ret (pv 6)) (pss_nil)))
  exact h
end Bf
set_option Elab.async false
set_option linter.all false
set_option maxRecDepth 100000
set_option maxHeartbeats 4000000
/-! The derivations of the defs' readings. Printed by mkdv.py. -/
namespace Bf
open PySem PyProof.Rows L2
def t_law (P : Program) (w : World) (K : PySem.W.Frag) (C : Addr) : TS := tSeq (tAsg (tLst (tCons (tVar 0) (tCons (tC (.int 0)) (tCons (tC (.int 0)) (tCons (tC (.int 0)) (tNil)))))) (gName 1)) (tSeq (tAsg (tCall (sp__law_scheme K C) [] E0 (tCons (tVar 1) (tCons (tC (.int 3)) (tCons (tC (.int 4)) (tNil))))) (gName 2)) (tSeq (tAsg (tTup (tCons (tCall (sp__law_plan K C) [] E0 (tCons (tVar 2) (tNil))) (tCons (tCall (sp__law_loads K C) [] E0 (tCons (tVar 1) (tCons (tVar 2) (tNil)))) (tCons (tDNewK) (tNil))))) (gTup K 3 (gCons (gName 3) (gCons (gName 4) (gCons (gName 5) (gNil)))))) (tSeq (tFor (iList K (tCall (sp__law_mixed K C) [] E0 (tCons (tVar 1) (tCons (tOp (rIx K) (tVar 2) (tC (.int 2))) (tNil))))) (gName 6) (tSeq (tIfS (tTest (tOp (rI0 fun i j => .bl (decide (j < i))) (tCall (sp__law_taken K C) [] E0 (tCons (tVar 1) (tCons (tC (.int 3)) (tNil)))) (tC (.int 0)))) (tSeq (tAsg (tCall (sp__law_taken K C) [] E0 (tCons (tVar 1) (tCons (tC (.int 24)) (tNil)))) (gName 7)) (tSeq (sDPut (tVar 5) (tOp (rIx K) (tVar 6) (tC (.int 0))) (tTup (tCons (tVar 7) (tCons (tOp (rPlus3 K) (tOp (rPlus3 K) (tVar 7) (tC (.int 1))) (tCall (sp__law_taken K C) [] E0 (tCons (tVar 1) (tCons (tOp (rI0 fun i j => .int (i - j)) (tC (.int 24)) (tVar 7)) (tNil))))) (tCons (tOp (rPlus3 K) (tC (.int 1)) (tCall (sp__law_taken K C) [] E0 (tCons (tVar 1) (tCons (tC (.int 4)) (tNil))))) (tNil)))))) (tNext))) (tNext)) (tNext))) (tSeq (tAsg (tLc (iRng1 (tCons (tC (.int 12)) (tNil))) (gName 8) (tYes) (tCall (sp__law_day K C) [] E0 (tCons (tVar 2) (tCons (tOp (rIx K) (tVar 2) (tC (.int 4))) (tCons (tVar 4) (tCons (tVar 5) (tCons (tVar 8) (tNil))))))) [8]) (gName 9)) (tSeq (tFor (iRng3 (tCons (tCall (sp__law_taken K C) [] E0 (tCons (tVar 1) (tCons (tC (.int 4)) (tNil)))) (tCons (tC (.int 12)) (tCons (tC (.int 3)) (tNil))))) (gName 8) (tSeq (tIfS (tTest (tOp (rNeD K) (tCall (sp_day K C) [] E0 (tCons (tVar 3) (tCons (tOp (rIx K) (tVar 2) (tC (.int 4))) (tCons (tVar 4) (tCons (tVar 5) (tCons (tVar 8) (tNil))))))) (tOp (rIx K) (tVar 9) (tVar 8)))) (tSeq (tRet (tC (.bl false))) (tNext)) (tNext)) (tNext))) (tSeq (tAsg (tLst (tNil)) (gName 10)) (tSeq (tFor (iRng1 (tCons (tCB (rLen K) (tCons (tOp (rIx K) (tVar 2) (tC (.int 0))) (tNil))) (tNil))) (gName 11) (tSeq (tDrop (tBM K "list" rAppend (tVar 10) (tCons (tLc (iList K (tVar 9)) (gName 12) (tYes) (tCB (rLen K) (tCons (tLc (iList K (tVar 12)) (gTup K 2 (gCons (gName 13) (gCons (gName 14) (gNil)))) (tTest (tOp (rEqD K) (tVar 14) (tVar 11))) (tC (.int 1)) [13, 14]) (tNil))) [12]) (tNil)))) (tSeq (tAsg (tLc (iRng1 (tCons (tC (.int 12)) (tNil))) (gName 8) (tTest (tOp (rI0 fun i j => .bl (decide (j < i))) (tOp (rIx K) (tOp (rIx K) (tVar 10) (tVar 11)) (tVar 8)) (tC (.int 0)))) (tVar 8) [8]) (gName 15)) (tSeq (tIfS (tTest (tOp (rNeD K) (tCall (sp_first_day K C) [] E0 (tCons (tVar 3) (tCons (tOp (rIx K) (tVar 2) (tC (.int 4))) (tCons (tVar 4) (tCons (tVar 5) (tCons (tVar 11) (tNil))))))) (tIf (tTest (tOp (rNeD K) (tVar 15) (tLst (tNil)))) (tOp (rIx K) (tVar 15) (tC (.int 0))) (tC .non)))) (tSeq (tRet (tC (.bl false))) (tNext)) (tNext)) (tNext))))) (tSeq (tFor (iTup K (tTup (tCons (tC (.int 0)) (tCons (tC (.int 1)) (tCons (tC (.int 5)) (tCons (tC (.int 12)) (tNil))))))) (gName 16) (tSeq (tIfS (tTest (tOp (rNeD K) (tCall (sp_trips_until K C) [] E0 (tCons (tVar 3) (tCons (tOp (rIx K) (tVar 2) (tC (.int 4))) (tCons (tVar 4) (tCons (tVar 5) (tCons (tVar 16) (tNil))))))) (tCB (rTupC K) (tCons (tLc (iList K (tVar 10)) (gName 12) (tYes) (tCB (rSum K) (tCons (tSl (rCut K) (tVar 12) (tNoPart) (tPart (tVar 16))) (tNil))) [12]) (tNil))))) (tSeq (tRet (tC (.bl false))) (tNext)) (tNext)) (tNext))) (tSeq (tAsg (tTup (tCons (tOp (rPlus3 K) (tOp (rI CPow fun i j => .int (i ^ j.toNat)) (tC (.int 10)) (tC (.int 16))) (tCall (sp__law_taken K C) [] E0 (tCons (tVar 1) (tCons (tC (.int 9)) (tNil))))) (tCons (tCall (sp__law_taken K C) [] E0 (tCons (tVar 1) (tCons (tC (.int 12)) (tNil)))) (tNil)))) (gTup K 2 (gCons (gName 17) (gCons (gName 18) (gNil))))) (tSeq (tAsg (tCB (rTupC K) (tCons (tLc (iList K (tVar 10)) (gName 12) (tYes) (tOp (rPlus3 K) (tOp (rI CMul fun i j => .int (i * j)) (tVar 17) (tCB (rSum K) (tCons (tVar 12) (tNil)))) (tCB (rSum K) (tCons (tSl (rCut K) (tVar 12) (tNoPart) (tPart (tVar 18))) (tNil)))) [12]) (tNil))) (gName 19)) (tSeq (tIfS (tTest (tOp (rNeD K) (tCall (sp_trips_until K C) [] E0 (tCons (tVar 3) (tCons (tOp (rIx K) (tVar 2) (tC (.int 4))) (tCons (tVar 4) (tCons (tVar 5) (tCons (tOp (rPlus3 K) (tOp (rI CMul fun i j => .int (i * j)) (tC (.int 12)) (tVar 17)) (tVar 18)) (tNil))))))) (tVar 19))) (tSeq (tRet (tC (.bl false))) (tNext)) (tNext)) (tSeq (tAsg (tCall (sp_fewest_shifts K C) [] E0 (tCons (tVar 3) (tCons (tOp (rIx K) (tVar 2) (tC (.int 4))) (tCons (tVar 4) (tCons (tVar 5) (tCons (tC (.int 0)) (tNil))))))) (gName 20)) (tSeq (tRet (tOp (rEqD K) (tVar 20) (tIf (tTest (tOp (rEqD K) (tLc (iList K (tVar 9)) (gName 12) (tTest (tOp (rNeD K) (tVar 12) (tLst (tNil)))) (tVar 12) [12]) (tLst (tNil)))) (tLst (tNil)) (tC .non)))) (tNext))))))))))))))
theorem dv_law {P : Program} {w : World} {K : PySem.W.Frag} {mg : Str → Option Value} {base : Heap} {C : Addr} {f : Addr} {cdv : Value} {A : Around} {outer : List Env} {s : Shared} {H : Hp} {E : XK} (T : Txf mg) (D_fewest_shifts : FD P w K mg base 10 "fewest_shifts" ps_fewest_shifts (sp_fewest_shifts K C)) (D_trips_until : FD P w K mg base 9 "trips_until" ps_trips_until (sp_trips_until K C)) (D__law_taken : FD P w K mg base 1 "_law_taken" ps__law_taken (sp__law_taken K C)) (D_first_day : FD P w K mg base 9 "first_day" ps_first_day (sp_first_day K C)) (D_day : FD P w K mg base 8 "day" ps_day (sp_day K C)) (D__law_day : FD P w K mg base 5 "_law_day" ps__law_day (sp__law_day K C)) (D__law_mixed : FD P w K mg base 2 "_law_mixed" ps__law_mixed (sp__law_mixed K C)) (D__law_loads : FD P w K mg base 2 "_law_loads" ps__law_loads (sp__law_loads K C)) (D__law_plan : FD P w K mg base 6 "_law_plan" ps__law_plan (sp__law_plan K C)) (D__law_scheme : FD P w K mg base 3 "_law_scheme" ps__law_scheme (sp__law_scheme K C)) (hr : Room 10 (A.deeper (envOfC "law" (defScope st_law) s.heap.objs.size f cdv))) :
    PSs (cxOf CX0 P w K mg base nm_law "law" (defScope st_law) f cdv A outer s H E).nox (defBody st_law) (t_law P w K C) := by
  have nd := sc_law.nd
  have hu := hu_of hr
  have h : PSs (cxOf CX0 P w K mg base nm_law "law" (defScope st_law) f cdv A outer s H E).nox (defBody st_law) (tSeq (tAsg (tLst (tCons (tVar 0) (tCons (tC (.int 0)) (tCons (tC (.int 0)) (tCons (tC (.int 0)) (tNil)))))) (gName 1)) (tSeq (tAsg (tCall (sp__law_scheme K C) [] E0 (tCons (tVar 1) (tCons (tC (.int 3)) (tCons (tC (.int 4)) (tNil))))) (gName 2)) (tSeq (tAsg (tTup (tCons (tCall (sp__law_plan K C) [] E0 (tCons (tVar 2) (tNil))) (tCons (tCall (sp__law_loads K C) [] E0 (tCons (tVar 1) (tCons (tVar 2) (tNil)))) (tCons (tDNewK) (tNil))))) (gTup K 3 (gCons (gName 3) (gCons (gName 4) (gCons (gName 5) (gNil)))))) (tSeq (tFor (iList K (tCall (sp__law_mixed K C) [] E0 (tCons (tVar 1) (tCons (tOp (rIx K) (tVar 2) (tC (.int 2))) (tNil))))) (gName 6) (tSeq (tIfS (tTest (tOp (rI0 fun i j => .bl (decide (j < i))) (tCall (sp__law_taken K C) [] E0 (tCons (tVar 1) (tCons (tC (.int 3)) (tNil)))) (tC (.int 0)))) (tSeq (tAsg (tCall (sp__law_taken K C) [] E0 (tCons (tVar 1) (tCons (tC (.int 24)) (tNil)))) (gName 7)) (tSeq (sDPut (tVar 5) (tOp (rIx K) (tVar 6) (tC (.int 0))) (tTup (tCons (tVar 7) (tCons (tOp (rPlus3 K) (tOp (rPlus3 K) (tVar 7) (tC (.int 1))) (tCall (sp__law_taken K C) [] E0 (tCons (tVar 1) (tCons (tOp (rI0 fun i j => .int (i - j)) (tC (.int 24)) (tVar 7)) (tNil))))) (tCons (tOp (rPlus3 K) (tC (.int 1)) (tCall (sp__law_taken K C) [] E0 (tCons (tVar 1) (tCons (tC (.int 4)) (tNil))))) (tNil)))))) (tNext))) (tNext)) (tNext))) (tSeq (tAsg (tLc (iRng1 (tCons (tC (.int 12)) (tNil))) (gName 8) (tYes) (tCall (sp__law_day K C) [] E0 (tCons (tVar 2) (tCons (tOp (rIx K) (tVar 2) (tC (.int 4))) (tCons (tVar 4) (tCons (tVar 5) (tCons (tVar 8) (tNil))))))) [8]) (gName 9)) (tSeq (tFor (iRng3 (tCons (tCall (sp__law_taken K C) [] E0 (tCons (tVar 1) (tCons (tC (.int 4)) (tNil)))) (tCons (tC (.int 12)) (tCons (tC (.int 3)) (tNil))))) (gName 8) (tSeq (tIfS (tTest (tOp (rNeD K) (tCall (sp_day K C) [] E0 (tCons (tVar 3) (tCons (tOp (rIx K) (tVar 2) (tC (.int 4))) (tCons (tVar 4) (tCons (tVar 5) (tCons (tVar 8) (tNil))))))) (tOp (rIx K) (tVar 9) (tVar 8)))) (tSeq (tRet (tC (.bl false))) (tNext)) (tNext)) (tNext))) (tSeq (tAsg (tLst (tNil)) (gName 10)) (tSeq (tFor (iRng1 (tCons (tCB (rLen K) (tCons (tOp (rIx K) (tVar 2) (tC (.int 0))) (tNil))) (tNil))) (gName 11) (tSeq (tDrop (tBM K "list" rAppend (tVar 10) (tCons (tLc (iList K (tVar 9)) (gName 12) (tYes) (tCB (rLen K) (tCons (tLc (iList K (tVar 12)) (gTup K 2 (gCons (gName 13) (gCons (gName 14) (gNil)))) (tTest (tOp (rEqD K) (tVar 14) (tVar 11))) (tC (.int 1)) [13, 14]) (tNil))) [12]) (tNil)))) (tSeq (tAsg (tLc (iRng1 (tCons (tC (.int 12)) (tNil))) (gName 8) (tTest (tOp (rI0 fun i j => .bl (decide (j < i))) (tOp (rIx K) (tOp (rIx K) (tVar 10) (tVar 11)) (tVar 8)) (tC (.int 0)))) (tVar 8) [8]) (gName 15)) (tSeq (tIfS (tTest (tOp (rNeD K) (tCall (sp_first_day K C) [] E0 (tCons (tVar 3) (tCons (tOp (rIx K) (tVar 2) (tC (.int 4))) (tCons (tVar 4) (tCons (tVar 5) (tCons (tVar 11) (tNil))))))) (tIf (tTest (tOp (rNeD K) (tVar 15) (tLst (tNil)))) (tOp (rIx K) (tVar 15) (tC (.int 0))) (tC .non)))) (tSeq (tRet (tC (.bl false))) (tNext)) (tNext)) (tNext))))) (tSeq (tFor (iTup K (tTup (tCons (tC (.int 0)) (tCons (tC (.int 1)) (tCons (tC (.int 5)) (tCons (tC (.int 12)) (tNil))))))) (gName 16) (tSeq (tIfS (tTest (tOp (rNeD K) (tCall (sp_trips_until K C) [] E0 (tCons (tVar 3) (tCons (tOp (rIx K) (tVar 2) (tC (.int 4))) (tCons (tVar 4) (tCons (tVar 5) (tCons (tVar 16) (tNil))))))) (tCB (rTupC K) (tCons (tLc (iList K (tVar 10)) (gName 12) (tYes) (tCB (rSum K) (tCons (tSl (rCut K) (tVar 12) (tNoPart) (tPart (tVar 16))) (tNil))) [12]) (tNil))))) (tSeq (tRet (tC (.bl false))) (tNext)) (tNext)) (tNext))) (tSeq (tAsg (tTup (tCons (tOp (rPlus3 K) (tOp (rI CPow fun i j => .int (i ^ j.toNat)) (tC (.int 10)) (tC (.int 16))) (tCall (sp__law_taken K C) [] E0 (tCons (tVar 1) (tCons (tC (.int 9)) (tNil))))) (tCons (tCall (sp__law_taken K C) [] E0 (tCons (tVar 1) (tCons (tC (.int 12)) (tNil)))) (tNil)))) (gTup K 2 (gCons (gName 17) (gCons (gName 18) (gNil))))) (tSeq (tAsg (tCB (rTupC K) (tCons (tLc (iList K (tVar 10)) (gName 12) (tYes) (tOp (rPlus3 K) (tOp (rI CMul fun i j => .int (i * j)) (tVar 17) (tCB (rSum K) (tCons (tVar 12) (tNil)))) (tCB (rSum K) (tCons (tSl (rCut K) (tVar 12) (tNoPart) (tPart (tVar 18))) (tNil)))) [12]) (tNil))) (gName 19)) (tSeq (tIfS (tTest (tOp (rNeD K) (tCall (sp_trips_until K C) [] E0 (tCons (tVar 3) (tCons (tOp (rIx K) (tVar 2) (tC (.int 4))) (tCons (tVar 4) (tCons (tVar 5) (tCons (tOp (rPlus3 K) (tOp (rI CMul fun i j => .int (i * j)) (tC (.int 12)) (tVar 17)) (tVar 18)) (tNil))))))) (tVar 19))) (tSeq (tRet (tC (.bl false))) (tNext)) (tNext)) (tSeq (tAsg (tCall (sp_fewest_shifts K C) [] E0 (tCons (tVar 3) (tCons (tOp (rIx K) (tVar 2) (tC (.int 4))) (tCons (tVar 4) (tCons (tVar 5) (tCons (tC (.int 0)) (tNil))))))) (gName 20)) (tSeq (tRet (tOp (rEqD K) (tVar 20) (tIf (tTest (tOp (rEqD K) (tLc (iList K (tVar 9)) (gName 12) (tTest (tOp (rNeD K) (tVar 12) (tLst (tNil)))) (tVar 12) [12]) (tLst (tNil)))) (tLst (tNil)) (tC .non)))) (tNext))))))))))))))) := pss_cons (ps_set (i := 1) nd rfl (Or.inl rfl) (pe_lst (pa_cons (pv 0) (pa_cons (pe_int) (pa_cons (pe_int) (pa_cons (pe_int) (pa_nil))))))) (pss_cons (ps_set (i := 2) nd rfl (Or.inr rfl) (pe_callD D__law_scheme (hr.mono (by decide)) (by rfl) (pa_cons (pv 1) (pa_cons (pe_int) (pa_cons (pe_int) (pa_nil)))))) (pss_cons (ps_asg (pe_tup (pa_cons (pe_callD D__law_plan (hr.mono (by decide)) (by rfl) (pa_cons (pv 2) (pa_nil))) (pa_cons (pe_callD D__law_loads (hr.mono (by decide)) (by rfl) (pa_cons (pv 1) (pa_cons (pv 2) (pa_nil)))) (pa_cons (pe_dnewK) (pa_nil))))) (pg_tup rfl (pgs_cons (pg_name (i := 3) nd rfl (Or.inl rfl)) (pgs_cons (pg_name (i := 4) nd rfl (Or.inr rfl)) (pgs_cons (pg_name (i := 5) nd rfl (Or.inr rfl)) (pgs_nil)))))) (pss_cons (ps_for PassesOwn.never rfl (pi_list (pe_callD D__law_mixed (hr.mono (by decide)) (by rfl) (pa_cons (pv 1) (pa_cons (pe_ix ix_seq (pv 2) (pe_int) (fun _ _ => rfl)) (pa_nil))))) (pg_name (i := 6) nd rfl (Or.inl rfl)) (pss_cons (ps_if (pt_cmpR op_gt (pe_callD D__law_taken (hr.mono (by decide)) (by rfl) (pa_cons (pv 1) (pa_cons (pe_int) (pa_nil)))) (pe_int) (nomark _)) (pss_cons (ps_set (i := 7) nd rfl (Or.inl rfl) (pe_callD D__law_taken (hr.mono (by decide)) (by rfl) (pa_cons (pv 1) (pa_cons (pe_int) (pa_nil))))) (pss_cons (ps_dput hu (pv 5) (pe_ix ix_seq (pv 6) (pe_int) (fun _ _ => rfl)) (pe_tup (pa_cons (pv 7) (pa_cons (pe_op op_plus3 (pe_op op_plus3 (pv 7) (pe_int)) (pe_callD D__law_taken (hr.mono (by decide)) (by rfl) (pa_cons (pv 1) (pa_cons (pe_op op_sub (pe_int) (pv 7)) (pa_nil))))) (pa_cons (pe_op op_plus3 (pe_int) (pe_callD D__law_taken (hr.mono (by decide)) (by rfl) (pa_cons (pv 1) (pa_cons (pe_int) (pa_nil))))) (pa_nil))))) rfl) (pss_nil))) (pss_nil)) (pss_nil))) (pss_cons (ps_setLc (i := 9) (own := [("_law_number", 8)]) rfl nd rfl rfl (sw_true rfl rfl rfl (by decide +kernel)) (pi_range1 (by rfl) T.f_range (pa_cons (pe_int) (pa_nil))) (blkOk_by (N := nm_law) (sc := defScope st_law) (own := [("_law_number", 8)]) (by decide +kernel)) (fun _ _ _ _ _ => pg_name (i := 8) nd rfl (Or.inl rfl)) (fun _ _ _ _ _ => pts_nil) (fun _ _ _ _ _ => pe_callD D__law_day (hr.mono (by decide)) (by rfl) (pa_cons (pv 2) (pa_cons (pe_ix ix_seq (pv 2) (pe_int) (fun _ _ => rfl)) (pa_cons (pv 4) (pa_cons (pv 5) (pa_cons (pv 8) (pa_nil)))))))) (pss_cons (ps_for PassesOwn.never rfl (pi_range3 (by rfl) T.f_range (pa_cons (pe_callD D__law_taken (hr.mono (by decide)) (by rfl) (pa_cons (pv 1) (pa_cons (pe_int) (pa_nil)))) (pa_cons (pe_int) (pa_cons (pe_int) (pa_nil))))) (pg_name (i := 8) nd rfl (Or.inl rfl)) (pss_cons (ps_if (pt_cmpR (op_neD hr.units) (pe_callD D_day (hr.mono (by decide)) (by rfl) (pa_cons (pv 3) (pa_cons (pe_ix ix_seq (pv 2) (pe_int) (fun _ _ => rfl)) (pa_cons (pv 4) (pa_cons (pv 5) (pa_cons (pv 8) (pa_nil))))))) (pe_ix ix_seq (pv 9) (pv 8) (fun _ _ => rfl)) (nomark _)) (pss_cons (ps_ret (pe_bl)) (pss_nil)) (pss_nil)) (pss_nil))) (pss_cons (ps_set (i := 10) nd rfl (Or.inr rfl) (pe_lst (pa_nil))) (pss_cons (ps_for PassesOwn.never rfl (pi_range1 (by rfl) T.f_range (pa_cons (pe_callB call_lenX (by rfl) T.f_len (by decide +kernel) (pa_cons (pe_ix ix_seq (pv 2) (pe_int) (fun _ _ => rfl)) (pa_nil))) (pa_nil))) (pg_name (i := 11) nd rfl (Or.inr rfl)) (pss_cons (ps_expr (pe_bm PySem.F.plainAttrs_list PySem.F.slot_list_append PySem.F.type_list_append mt_append (pv 10) (pa_cons (pe_lc (own := [("_law_some", 12)]) rfl nd (pi_list (pv 9)) (blkOk_by (N := nm_law) (sc := defScope st_law) (own := [("_law_some", 12)]) (by decide +kernel)) (fun _ _ _ _ _ => pg_name (i := 12) nd rfl (Or.inl rfl)) (fun _ _ _ _ _ => pts_nil) (fun _ _ _ _ _ => pe_callB call_lenX (by rfl) T.f_len (by decide +kernel) (pa_cons (pe_lc (own := [("_law_hour", 13), ("_law_trip", 14)]) rfl nd (pi_list (pv 12)) (blkOk_by (N := nm_law) (sc := relS _ (defScope st_law)) (own := [("_law_hour", 13), ("_law_trip", 14)]) (by decide +kernel)) (fun _ _ _ _ _ => pg_tup rfl (pgs_cons (pg_name (i := 13) nd rfl (Or.inl rfl)) (pgs_cons (pg_name (i := 14) nd rfl (Or.inl rfl)) (pgs_nil)))) (fun _ _ _ _ _ => pts_one (pt_cmpR (op_eqD hr.units) (pv 14) (pv 11) (nomark _))) (fun _ _ _ _ _ => pe_int)) (pa_nil)))) (pa_nil)))) (pss_cons (ps_setLc (i := 15) (own := [("_law_number", 8)]) rfl nd rfl rfl (sw_true rfl rfl rfl (by decide +kernel)) (pi_range1 (by rfl) T.f_range (pa_cons (pe_int) (pa_nil))) (blkOk_by (N := nm_law) (sc := defScope st_law) (own := [("_law_number", 8)]) (by decide +kernel)) (fun _ _ _ _ _ => pg_name (i := 8) nd rfl (Or.inl rfl)) (fun _ _ _ _ _ => pts_one (pt_cmpR op_gt (pe_ix ix_seq (pe_ix ix_seq (pv 10) (pv 11) (fun _ _ => rfl)) (pv 8) (fun _ _ => rfl)) (pe_int) (nomark _))) (fun _ _ _ _ _ => pv 8)) (pss_cons (ps_if (pt_cmpR (op_neD hr.units) (pe_callD D_first_day (hr.mono (by decide)) (by rfl) (pa_cons (pv 3) (pa_cons (pe_ix ix_seq (pv 2) (pe_int) (fun _ _ => rfl)) (pa_cons (pv 4) (pa_cons (pv 5) (pa_cons (pv 11) (pa_nil))))))) (pe_ifExp (pt_cmpR (op_neD hr.units) (pv 15) (pe_lst (pa_nil)) (nomark _)) (pe_ix ix_seq (pv 15) (pe_int) (fun _ _ => rfl)) (pe_non)) (nomark _)) (pss_cons (ps_ret (pe_bl)) (pss_nil)) (pss_nil)) (pss_nil))))) (pss_cons (ps_for PassesOwn.never rfl (pi_tup (pe_tup (pa_cons (pe_int) (pa_cons (pe_int) (pa_cons (pe_int) (pa_cons (pe_int) (pa_nil))))))) (pg_name (i := 16) nd rfl (Or.inr rfl)) (pss_cons (ps_if (pt_cmpR (op_neD hr.units) (pe_callD D_trips_until (hr.mono (by decide)) (by rfl) (pa_cons (pv 3) (pa_cons (pe_ix ix_seq (pv 2) (pe_int) (fun _ _ => rfl)) (pa_cons (pv 4) (pa_cons (pv 5) (pa_cons (pv 16) (pa_nil))))))) (pe_callTy call_tupX (by rfl) T.f_tuple (by decide +kernel) (pa_cons (pe_lc (own := [("_law_some", 12)]) rfl nd (pi_list (pv 10)) (blkOk_by (N := nm_law) (sc := defScope st_law) (own := [("_law_some", 12)]) (by decide +kernel)) (fun _ _ _ _ _ => pg_name (i := 12) nd rfl (Or.inl rfl)) (fun _ _ _ _ _ => pts_nil) (fun _ _ _ _ _ => pe_callB (cr_sum rfl) (by rfl) T.f_sum (by decide +kernel) (pa_cons (pe_slice sl_cut (pv 12) (po_none) (po_some (pv 16))) (pa_nil)))) (pa_nil))) (nomark _)) (pss_cons (ps_ret (pe_bl)) (pss_nil)) (pss_nil)) (pss_nil))) (pss_cons (ps_asg (pe_tup (pa_cons (pe_op op_plus3 (pe_op op_pow (pe_int) (pe_int)) (pe_callD D__law_taken (hr.mono (by decide)) (by rfl) (pa_cons (pv 1) (pa_cons (pe_int) (pa_nil))))) (pa_cons (pe_callD D__law_taken (hr.mono (by decide)) (by rfl) (pa_cons (pv 1) (pa_cons (pe_int) (pa_nil)))) (pa_nil)))) (pg_tup rfl (pgs_cons (pg_name (i := 17) nd rfl (Or.inr rfl)) (pgs_cons (pg_name (i := 18) nd rfl (Or.inr rfl)) (pgs_nil))))) (pss_cons (ps_set (i := 19) nd rfl (Or.inl rfl) (pe_callTy call_tupX (by rfl) T.f_tuple (by decide +kernel) (pa_cons (pe_lc (own := [("_law_some", 12)]) rfl nd (pi_list (pv 10)) (blkOk_by (N := nm_law) (sc := defScope st_law) (own := [("_law_some", 12)]) (by decide +kernel)) (fun _ _ _ _ _ => pg_name (i := 12) nd rfl (Or.inl rfl)) (fun _ _ _ _ _ => pts_nil) (fun _ _ _ _ _ => pe_op op_plus3 (pe_op op_mul (pv 17) (pe_callB (cr_sum rfl) (by rfl) T.f_sum (by decide +kernel) (pa_cons (pv 12) (pa_nil)))) (pe_callB (cr_sum rfl) (by rfl) T.f_sum (by decide +kernel) (pa_cons (pe_slice sl_cut (pv 12) (po_none) (po_some (pv 18))) (pa_nil))))) (pa_nil)))) (pss_cons (ps_if (pt_cmpR (op_neD hr.units) (pe_callD D_trips_until (hr.mono (by decide)) (by rfl) (pa_cons (pv 3) (pa_cons (pe_ix ix_seq (pv 2) (pe_int) (fun _ _ => rfl)) (pa_cons (pv 4) (pa_cons (pv 5) (pa_cons (pe_op op_plus3 (pe_op op_mul (pe_int) (pv 17)) (pv 18)) (pa_nil))))))) (pv 19) (nomark _)) (pss_cons (ps_ret (pe_bl)) (pss_nil)) (pss_nil)) (pss_cons (ps_set (i := 20) nd rfl (Or.inl rfl) (pe_callD D_fewest_shifts (hr.mono (by decide)) (by rfl) (pa_cons (pv 3) (pa_cons (pe_ix ix_seq (pv 2) (pe_int) (fun _ _ => rfl)) (pa_cons (pv 4) (pa_cons (pv 5) (pa_cons (pe_int) (pa_nil)))))))) (pss_cons (ps_ret (pe_cmpR (op_eqD hr.units) (pv 20) (pe_ifExp (pt_cmpR (op_eqD hr.units) (pe_lc (own := [("_law_some", 12)]) rfl nd (pi_list (pv 9)) (blkOk_by (N := nm_law) (sc := defScope st_law) (own := [("_law_some", 12)]) (by decide +kernel)) (fun _ _ _ _ _ => pg_name (i := 12) nd rfl (Or.inl rfl)) (fun _ _ _ _ _ => pts_one (pt_cmpR (op_neD hr.units) (pv 12) (pe_lst (pa_nil)) (nomark _))) (fun _ _ _ _ _ => pv 12)) (pe_lst (pa_nil)) (nomark _)) (pe_lst (pa_nil)) (pe_non)) (nomark _))) (pss_nil))))))))))))))
  exact h
end Bf
set_option Elab.async false
set_option linter.all false
set_option maxRecDepth 100000
set_option maxHeartbeats 4000000
namespace Bf
open PySem PyProof.Rows L2
section
variable {P : Program} {w : World} {K : PySem.W.Frag} {mg : Str → Option Value} {base : Heap} {C : Addr}
section
variable {σ : St} {G G' F : Hp} {ta tb te tx td ty to ti : TE} {t u : L2.TT} {P' P1 P2 : V → Hp → Prop} {v : V} {α β : Type}
theorem ev_allM {xs : List α} {f : α → Bool} (ha : Ev ta σ G (D K (.list (xs.map fun a => .bool (f a))))) : Ev (tCB (rAll K) (tCons ta tNil)) σ G (D K (.bool (xs.all f))) := by
  have e : (xs.map fun a => PyData.bool (f a)) = (xs.map f).map PyData.bool := by rw [List.map_map]; rfl
  rw [e] at ha
  refine (ev_all ha).of ?_
  rw [List.all_map]; rfl
theorem ev_sumM {xs : List α} {f : α → Int} (ha : Ev ta σ G (D K (.list (xs.map fun a => .int (f a))))) : Ev (tCB (rSum K) (tCons ta tNil)) σ G (D K (.int (xs.map f).sum)) := by
  have e : (xs.map fun a => PyData.int (f a)) = (xs.map f).map PyData.int := by rw [List.map_map]; rfl
  rw [e] at ha
  exact ev_sum ha
theorem all_true {xs : List α} {f : α → Bool} (h : ∀ a ∈ xs, f a = true) : xs.all f = true := List.all_eq_true.mpr h
theorem shaped_int (i : Int) : SeqAt.shaped (.int i) = true := rfl
/-- the plan's slot -/
theorem ev_parts {pl : PlanD} (hf : PlF K C) (ha : Ev ta σ G (Pl K C pl)) : Ev (SlX.tSl K ta "parts") σ G (D K (.tuple (eParts pl))) := fun G1 a F dj Q q =>
  ha G1 a F dj _ fun x G2 e2 d2 p => by
    obtain ⟨b, dx, z, rfl, h1, h2, h3, _⟩ := p
    obtain ⟨q1, hs⟩ := hf.sl
    exact ⟨b, C, dx, q1, _, 0, _, rfl, .inr ⟨un_l h1, un_l h2⟩, hf.sc, hs, rfl, q _ G2 e2 d2 h3⟩
theorem fnS_len {α : Type} {n : Nat} {pre : α → List (V → Hp → Prop)} {ok : α → Prop} {post : α → V → Hp → Prop} (vs : List V) (H : Hp) (Q : VK) (E : XK) (h : FnS n pre ok post vs H Q E) : vs.length = n := h.1
end
theorem fd_is_number (F : Df K mg "is_number" st_is_number) (T : Txf mg) : FD P w K mg base 1 "is_number" ps_is_number (sp_is_number K C) := by
  refine fd_S F sc_is_number rfl (fun _ _ _ _ _ _ us hl => match us, hl with | [_, _, _], _ => rfl) fun f cdv A outer s H E hr => ⟨_, dv_is_number (C := C) T hr, ?_⟩
  rintro vs Q ⟨i, lo, hi⟩ G F dj al _ k
  obtain ⟨v0, v1, v2, rfl, p0, p1, p2⟩ := al3 al
  exact s_ret dj (ev_andV (ev_isiInt (b := true) (ev_v rfl p0) (by decide +kernel)) fun _ => ev_andV (ev_notV (ev_isiInt (b := false) (ev_v rfl p0) (by decide +kernel))) fun _ => ev_chain (g := fun i j => decide (i ≤ j)) (g' := fun i j => decide (i ≤ j)) (ev_v rfl p1) (ev_v rfl p0) (ev_v rfl p2)) k
theorem fd_is_word (F : Df K mg "is_word" st_is_word) (T : Txf mg) : FD P w K mg base 1 "is_word" ps_is_word (sp_is_word K C) := by
  refine fd_S F sc_is_word rfl (fun _ _ _ _ _ _ us hl => match us, hl with | [_], _ => rfl) fun f cdv A outer s H E hr => ⟨_, dv_is_word (C := C) T hr, ?_⟩
  rintro vs Q z G F dj al hok k
  obtain ⟨v0, rfl, p0⟩ := al1 al
  obtain ⟨h1, h2, h3⟩ := hok
  refine s_no dj ((et_or (et_not (et_B (ev_isiStr (b := true) (ev_v rfl p0) (by decide +kernel)))) fun _ => et_not (et_test (ev_chain (g := fun i j => decide (i ≤ j)) (g' := fun i j => decide (i ≤ j)) (ev_int 1) (ev_lenS (ev_v rfl p0) (by omega)) (ev_int 8)))).of ?_) fun G1 e1 d1 => ?_
  · simp only [Bool.not_true, Bool.false_or, Bool.not_eq_false', Bool.and_eq_true, decide_eq_true_eq]
    omega
  · refine s_nx (s_ret d1 ((ev_allM (f := fun c => decide (c ∈ lettersS.cps.toList)) (Ev.l (e_lcM (enc := fun c => .str ⟨#[c]⟩) (fun c => .bool (decide (c ∈ lettersS.cps.toList))) (ei_str (ev_v rfl (p0.ex e1))) ?_ (fun _ => rfl) fun c x G' hc e r => ev_inS (ev_v rfl r) (ev_str lettersS)))).of ?_) fun v G2 e2 d2 p => k v G2 (e1.trans e2) d2 p)
    · show z.cps.toList.length ≤ 1000
      have : z.cps.toList.length = z.length := by simp [Str.length]
      omega
    · rw [all_true fun c hc => decide_eq_true (h3 c hc)]
theorem fd_are_rates (F : Df K mg "are_rates" st_are_rates) (T : Txf mg) (D1 : FD P w K mg base 1 "is_number" ps_is_number (sp_is_number K C)) : FD P w K mg base 2 "are_rates" ps_are_rates (sp_are_rates K C) := by
  refine fd_S F sc_are_rates rfl (fun _ _ _ _ _ _ us hl => match us, hl with | [_], _ => rfl) fun f cdv A outer s H E hr => ⟨_, dv_are_rates (C := C) T D1 hr, ?_⟩
  rintro vs Q pl G F dj al hp k
  obtain ⟨v0, rfl, p0⟩ := al1 al
  have hl : (eRates pl.rates) = .tuple (pl.rates.map PyData.int) := rfl
  rw [hl] at p0
  refine s_ret dj ((ev_andV (ev_chain (g := fun i j => decide (i ≤ j)) (g' := fun i j => decide (i ≤ j)) (ev_int 1) (ev_lenT (ev_v rfl p0)) (ev_int 5)) fun _ => ev_allM (xs := pl.rates) (f := fun r => decide (1 ≤ r) && decide (r ≤ 99)) (Ev.l (e_lcM (fun r => .bool (decide (1 ≤ r) && decide (r ≤ 99))) (ei_tup (ev_v rfl p0)) (by have := hp.n2; omega) (fun _ => rfl) fun r x G' hc e q =>
    c_is_number (r, 1, 99) (ea_d (ev_v rfl q) (ea_d (ev_int 1) (ea_d (ev_int 99) ea_nil))) trivial))).of ?_) k
  rw [all_true fun r hr => by simp [hp.rt r hr]]
  have := hp.n1
  have := hp.n2
  simp
  omega

end
end Bf
set_option Elab.async false
set_option linter.all false
set_option maxRecDepth 100000
set_option maxHeartbeats 4000000
namespace Bf
open PySem PyProof.Rows L2
section
variable {P : Program} {w : World} {K : PySem.W.Frag} {mg : Str → Option Value} {base : Heap} {C : Addr}
theorem eNats_cons (h : Nat) (t : List Nat) : eNats (h :: t) = .int (h : Int) :: eNats t := rfl
theorem eNats_get {l : List Nat} {i n : Nat} (h : l[i]? = some n) : (eNats l)[i]? = some (.int (n : Int)) := by unfold eNats; rw [List.getElem?_map, h]; rfl
theorem eOpts_get {l : List (Option Nat)} {i : Nat} (h : i < l.length) : (l.map eOpt)[i]? = some (eOpt (l.getD i none)) := by
  rw [List.getElem?_map, List.getElem?_eq_getElem h, List.getD_eq_getElem?_getD, List.getElem?_eq_getElem h]; rfl
theorem eNats_len (l : List Nat) : (eNats l).length = l.length := by unfold eNats; rw [List.length_map]
theorem fd_line_up (F : Df K mg "line_up" st_line_up) (T : Txf mg) (PP : PlP P w K mg base C) : FD P w K mg base 3 "line_up" ps_line_up (sp_line_up K C) := by
  refine fd_S F sc_line_up rfl (fun _ _ _ _ _ _ us hl => match us, hl with | [_, _], _ => rfl) fun f cdv A outer s H E hr => ⟨_, dv_line_up T PP hr, ?_⟩
  rintro vs Q ⟨pl, b⟩ G F dj al ⟨hp, hb⟩ k
  obtain ⟨v0, v1, rfl, p0, p1⟩ := al2 al
  refine s_set dj (ev_lst0 (ds := [.int (b : Int)]) (ea_d (ev_v rfl p1) ea_nil) (by simp)) fun v2 G1 e1 d1 q1 => ?_
  refine s_whileT d1 (fun m σ G' F' => F' = F ∧ ∃ h t x, m = h ∧ h < pl.rates.length ∧ σ = [some v0, some v1, some x] ∧ lineUp pl.above h ++ t = lineUp pl.above b ∧ D K (.list (eNats (h :: t))) x G' ∧ t.length + h ≤ b)
    b ⟨rfl, b, [], v2, rfl, hb, rfl, List.append_nil _, q1.d, by simp⟩ (fun _ _ _ _ => True) ?_
  rintro h σ G2 F' e2 d2 ⟨rfl, h', t, x, rfl, hh, rfl, hl, hx, hm⟩
  have p0' := mo_Pl _ _ _ (e1.trans e2) p0
  have hal : h < pl.above.length := by rw [hp.al]; exact hh
  have hs : ∀ G', Ex G2 G' → Ev (tOp (rIx K) (SlX.tPropSl C (sp_above K C) E0 (tVar 0)) (tOp (rIx K) (tVar 2) (tC (.int 0)))) [some v0, some v1, some x] G' (D K (eOpt (up pl.above h))) := fun G' e' =>
    ev_ixT (ds := pl.above.map eOpt) (ev_prop (sp := fun pl => D K (eOpts pl.above)) (ev_var rfl mo_Pl (mo_Pl _ _ _ e' p0')) rfl) (ev_ixL (i := 0) (ev_v rfl (hx.ex e')) (ev_int 0) rfl) (eOpts_get hal)
  refine ⟨_, et_B (ev_notN (hs G2 (Ex.refl _))), fun hc G3 e3 d3 => ?_, fun hc G3 e3 d3 => ?_⟩
  · cases hu : up pl.above h with
    | none => rw [hu] at hc; cases hc
    | some p =>
      have hpl := up_lt hp.tr hu
      refine ⟨Iv G1 fun σ G'' F'' => F'' = F' ∧ ∃ h t x, p = h ∧ h < pl.rates.length ∧ σ = [some v0, some v1, some x] ∧ lineUp pl.above h ++ t = lineUp pl.above b ∧ D K (.list (eNats (h :: t))) x G'' ∧ t.length + h ≤ b, fun σ2 H2 q => ⟨p, hpl, q⟩, ?_⟩
      have hs' := hs G3 e3
      rw [hu] at hs'
      refine s_set d3 (ev_cons hs' (ev_v rfl (hx.ex e3)) (by rw [eNats_len]; show t.length + 1 < 1000; have := hp.n2; omega)) fun v4 G4 e4 d4 q4 => ?_
      refine s_iv ((e2.trans e3).trans e4) d4 rfl ⟨rfl, p, h :: t, v4, rfl, by omega, rfl, ?_, q4.d, by simp; omega⟩
      rw [← hl, lineUp_some hp.tr hu]
      simp
  · cases hu : up pl.above h with
    | some p => rw [hu] at hc; cases hc
    | none =>
      rw [lineUp_none hu] at hl
      have e5 : h :: t = lineUp pl.above b := hl
      rw [e5] at hx
      exact s_ret d3 (ev_tupL (ev_v rfl (hx.ex e3))) fun v G5 e5 d5 q5 => k v G5 (((e1.trans e2).trans e3).trans e5) d5 q5

end
end Bf
set_option Elab.async false
set_option linter.all false
set_option maxRecDepth 100000
set_option maxHeartbeats 4000000
namespace Bf
open PySem PyProof.Rows L2
section
variable {P : Program} {w : World} {K : PySem.W.Frag} {mg : Str → Option Value} {base : Heap} {C : Addr}
theorem inV_names {l : List Str} {n : Str} : inV (.str n) (l.map V.str) = l.contains n := by
  unfold inV
  rw [List.any_map, List.contains_eq_any_beq]
  congr 1
  funext x
  show (x == n) = (n == x)
  exact BEq.comm
theorem fd_is_point (F : Df K mg "is_point" st_is_point) (T : Txf mg) (D1 : FD P w K mg base 1 "is_number" ps_is_number (sp_is_number K C)) (D2 : FD P w K mg base 1 "is_word" ps_is_word (sp_is_word K C)) : FD P w K mg base 2 "is_point" ps_is_point (sp_is_point K C) := by
  refine fd_S F sc_is_point rfl (fun _ _ _ _ _ _ us hl => match us, hl with | [_], _ => rfl) fun f cdv A outer s H E hr => ⟨_, dv_is_point (C := C) T D2 D1 hr, ?_⟩
  rintro vs Q ⟨n, kd, rm⟩ G F dj al ⟨h1, h2, h3, h4⟩ k
  obtain ⟨v0, rfl, p0⟩ := al1 al
  have q0 : D K (.tuple [.str n, .str kd, .int rm]) v0 G := p0
  refine s_no dj ((et_or (et_not (et_B (ev_isiTup (b := true) (ev_v rfl q0) (by decide +kernel)))) fun _ => et_test (ev_neD (ev_lenT (ev_v rfl q0)) (ev_int 3) rfl rfl)).of rfl) fun G1 e1 d1 => ?_
  have q1 := q0.ex e1
  refine s_nx (s_ret d1 ((ev_andV (c_is_word n (ea_d (ev_ixT (i := 0) (ev_v rfl q1) (ev_int 0) rfl) ea_nil) h1) fun _ => ev_andV (ev_inT (d := .str kd) (ds := [.str "lamp", .str "plug"]) (neg := false) (ev_ixT (i := 1) (ev_v rfl q1) (ev_int 1) rfl) (ev_tup (ds := [.str "lamp", .str "plug"]) (ea_d (ev_str _) (ea_d (ev_str _) ea_nil)) (by simp)) rfl rfl) fun _ =>
    c_is_number (rm, 0, 9) (ea_d (ev_ixT (i := 2) (ev_v rfl q1) (ev_int 2) rfl) (ea_d (ev_int 0) (ea_d (ev_int 9) ea_nil))) trivial).of ?_) fun v G2 e2 d2 p => k v G2 (e1.trans e2) d2 p)
  have e : inV (.str kd) [V.str "lamp", V.str "plug"] = true := by
    rw [show [V.str "lamp", V.str "plug"] = (["lamp", "plug"] : List Str).map V.str from rfl, inV_names]
    rcases h2 with rfl | rfl <;> decide +kernel
  show PyData.bool (true && (inV (.str kd) [V.str "lamp", V.str "plug"] && (decide ((0 : Int) ≤ rm) && decide (rm ≤ 9)))) = _
  rw [e, decide_eq_true h3, decide_eq_true h4]
  rfl
theorem zip_drop {α : Type} {l : List α} {p : α × α} (h : p ∈ l.zip (l.drop 1)) : ∃ i, l[i]? = some p.1 ∧ l[i + 1]? = some p.2 := by
  obtain ⟨i, hi⟩ := List.getElem?_of_mem h
  obtain ⟨a, b⟩ := p
  obtain ⟨h1, h2⟩ := zip_at hi
  refine ⟨i, h1, ?_⟩
  rw [List.getElem?_drop, Nat.add_comm] at h2
  exact h2
theorem asc_next {l : List Str} (h : Asc l) {i : Nat} {a b : Str} (h1 : l[i]? = some a) (h2 : l[i + 1]? = some b) : a.cps.toList < b.cps.toList := by
  obtain ⟨i1, e1⟩ := List.getElem?_eq_some_iff.mp h1
  obtain ⟨i2, e2⟩ := List.getElem?_eq_some_iff.mp h2
  have := List.pairwise_iff_getElem.mp h i (i + 1) i1 i2 (Nat.lt_succ_self _)
  rw [e1, e2] at this
  exact this
theorem fd_are_points (F : Df K mg "are_points" st_are_points) (T : Txf mg) (D1 : FD P w K mg base 2 "is_point" ps_is_point (sp_is_point K C)) : FD P w K mg base 3 "are_points" ps_are_points (sp_are_points K C) := by
  refine fd_S F sc_are_points rfl (fun _ _ _ _ _ _ us hl => match us, hl with | [_], _ => rfl) fun f cdv A outer s H E hr => ⟨_, dv_are_points (C := C) T D1 hr, ?_⟩
  rintro vs Q pl G F dj al hp k
  obtain ⟨v0, rfl, p0⟩ := al1 al
  have q0 : D K (.tuple (pl.points.map ePoint)) v0 G := p0
  have l1 := hp.p1
  have l2 := hp.p2
  refine s_no dj ((et_or (et_not (et_test (ev_chain (g := fun i j => decide (i ≤ j)) (g' := fun i j => decide (i ≤ j)) (ev_int 1) (ev_lenT (ev_v rfl q0)) (ev_int 5)))) fun _ => et_not (et_B (ev_allM (xs := pl.points) (f := fun _ => true) (Ev.l (e_lcM (fun _ => .bool true) (ei_tup (ev_v rfl q0)) (by omega) (fun _ => rfl) fun p x G' hm e r =>
    c_is_point p (ea_d (ev_v rfl r) ea_nil) ⟨hp.nw p hm, hp.pk p hm⟩))))).of ?_) fun G1 e1 d1 => ?_
  · rw [all_true fun _ _ => rfl]
    simp
    omega
  · have q1 := q0.ex e1
    refine s_nx (s_ret d1 ((ev_allM (xs := pl.points.zip (pl.points.drop 1)) (f := fun (ab : (Str × Str × Int) × (Str × Str × Int)) => decide (ab.1.1.cps.toList < ab.2.1.cps.toList)) (Ev.l (e_lcPM (e1 := fun (ab : (Str × Str × Int) × (Str × Str × Int)) => ePoint ab.1) (e2 := fun ab => ePoint ab.2) (fun ab => .bool (decide (ab.1.1.cps.toList < ab.2.1.cps.toList)))
      (ei_zipT (ea := ePoint) (eb := ePoint) (ev_v rfl q1) ((ev_cutT (ev_v rfl q1) (eo_some (K := K) (ev_int 1)) eo_none).of ?_)) ?_ (fun _ _ => rfl) fun ab x y G' hm e r1 r2 => ?_))).of ?_) fun v G2 e2 d2 p => k v G2 (e1.trans e2) d2 p)
    · rw [show (some (1 : Int)) = some ((1 : Nat) : Int) from rfl, cut_from, List.map_drop]
    · rw [List.length_zip]
      omega
    · have r1' : D K (.tuple [.str ab.1.1, .str ab.1.2.1, .int ab.1.2.2]) x G' := r1
      have r2' : D K (.tuple [.str ab.2.1, .str ab.2.2.1, .int ab.2.2.2]) y G' := r2
      exact ev_ltS (ev_ixT (i := 0) (ev_v rfl r1') (ev_int 0) rfl) (ev_ixT (i := 0) (ev_v rfl r2') (ev_int 0) rfl)
    · rw [all_true fun ab hm => decide_eq_true ?_]
      obtain ⟨i, h1, h2⟩ := zip_drop hm
      exact asc_next hp.na (by unfold PlanD.names; rw [List.getElem?_map, h1]; rfl) (by unfold PlanD.names; rw [List.getElem?_map, h2]; rfl)
/-! ### the plan's properties -/
theorem fr_prop {f : Str} {qual : Str} {st : Stmt} {g : Addr} {t : TS} {post : PlanD → V → Hp → Prop} (F : Dm K f qual st g) (S : FnScope ["self"] ["self"] (defScope st))
    (hb : ∀ (kV doc pm : Value) (an : Option Addr) (cdv ct : Value) (us : List Value), us.length = (["self"] : List Str).length → bindArgs (PySem.W.fnOf f qual (defArgs st) (defBody st) (defScope st) .none kV doc pm an cdv ct) ⟨us, []⟩ = pure ((["self"] : List Str).zip us))
    (hd : ∀ (cdv : Value) (A : Around) (outer : List Env) (s : Shared) (H : Hp) (E : XK), Room 0 (A.deeper (envOfC qual (defScope st) s.heap.objs.size g cdv)) → PSs (cxOf CX0 P w K mg base ["self"] qual (defScope st) g cdv A outer s H E).nox (defBody st) t)
    (hq : ∀ (v0 : V) (Q : VK) (pl : PlanD) (G F : Hp), Dj G F → Pl K C pl v0 G → (∀ v G', Ex G G' → Dj G' F → post pl v G' → Q v (un G' F)) → t { nx := fun _ H' => Q .non H', rt := Q } [some v0] (un G F)) :
    FnR P w K mg base CX0 1 g (FnS 1 (fun pl => [Pl K C pl]) (fun _ => True) post) :=
  fr_raw (fr_ok F S hb (fun vs H Q E h => h.1) fun cdv A outer s H vs Q E hr h => by
    obtain ⟨_, pl, G, F, rfl, dj, al, _, k⟩ := h
    obtain ⟨v0, rfl, p0⟩ := al1 al
    exact ⟨t, hd cdv A outer s _ E hr, hq v0 Q pl G F dj p0 k⟩)
theorem fr_rates {g : Addr} (F : Dm K "rates" "Plan.rates" st_Plan_rates g) (T : Txf mg) (hf : PlF K C) : FnR P w K mg base CX0 1 g (sp_rates K C) :=
  fr_prop F sc_Plan_rates (fun _ _ _ _ _ _ us hl => match us, hl with | [_], _ => rfl) (fun cdv A outer s H E hr => dv_Plan_rates (C := C) T hr) fun v0 Q pl G F dj p0 k => s_ret dj (ev_ixT (i := 0) (ev_parts hf (ev_var rfl mo_Pl p0)) (ev_int 0) rfl) k
theorem fr_above {g : Addr} (F : Dm K "above" "Plan.above" st_Plan_above g) (T : Txf mg) (hf : PlF K C) : FnR P w K mg base CX0 1 g (sp_above K C) :=
  fr_prop F sc_Plan_above (fun _ _ _ _ _ _ us hl => match us, hl with | [_], _ => rfl) (fun cdv A outer s H E hr => dv_Plan_above (C := C) T hr) fun v0 Q pl G F dj p0 k => s_ret dj (ev_ixT (i := 1) (ev_parts hf (ev_var rfl mo_Pl p0)) (ev_int 1) rfl) k
theorem fr_points {g : Addr} (F : Dm K "points" "Plan.points" st_Plan_points g) (T : Txf mg) (hf : PlF K C) : FnR P w K mg base CX0 1 g (sp_points K C) :=
  fr_prop F sc_Plan_points (fun _ _ _ _ _ _ us hl => match us, hl with | [_], _ => rfl) (fun cdv A outer s H E hr => dv_Plan_points (C := C) T hr) fun v0 Q pl G F dj p0 k => s_ret dj (ev_ixT (i := 2) (ev_parts hf (ev_var rfl mo_Pl p0)) (ev_int 2) rfl) k
theorem fr_rule {g : Addr} (F : Dm K "rule" "Plan.rule" st_Plan_rule g) (T : Txf mg) (hf : PlF K C) : FnR P w K mg base CX0 1 g (sp_rule K C) :=
  fr_prop F sc_Plan_rule (fun _ _ _ _ _ _ us hl => match us, hl with | [_], _ => rfl) (fun cdv A outer s H E hr => dv_Plan_rule (C := C) T hr) fun v0 Q pl G F dj p0 k => s_ret dj (ev_ixT (i := 3) (ev_parts hf (ev_var rfl mo_Pl p0)) (ev_int 3) rfl) k
theorem fd_all_on (F : Df K mg "all_on" st_all_on) (T : Txf mg) (PP : PlP P w K mg base C) : FD P w K mg base 3 "all_on" ps_all_on (sp_all_on K C) := by
  refine fd_S F sc_all_on rfl (fun _ _ _ _ _ _ us hl => match us, hl with | [_], _ => rfl) fun f cdv A outer s H E hr => ⟨_, dv_all_on T PP hr, ?_⟩
  rintro vs Q pl G F dj al hp k
  obtain ⟨v0, rfl, p0⟩ := al1 al
  refine s_ret dj ((ev_tupL (Ev.l (e_lcM (xs := pl.rates) (enc := PyData.int) (fun _ => .bool true) (ei_tup (ev_prop (sp := fun pl => D K (eRates pl.rates)) (ev_var rfl mo_Pl p0) rfl)) (by have := hp.n2; omega) (fun _ => rfl) fun _ _ _ _ _ _ => ev_bl true))).of ?_) k
  unfold eBools allOn
  rw [List.map_replicate, List.map_const']
theorem hp_iff {above : List (Option Nat)} {st : List Bool} {b : Nat} : hasPw above st (some b) = (lineUp above b).all fun i => st.getD i false := rfl
theorem fd_has_power (F : Df K mg "has_power" st_has_power) (T : Txf mg) (D1 : FD P w K mg base 3 "line_up" ps_line_up (sp_line_up K C)) : FD P w K mg base 4 "has_power" ps_has_power (sp_has_power K C) := by
  refine fd_S F sc_has_power rfl (fun _ _ _ _ _ _ us hl => match us, hl with | [_, _, _], _ => rfl) fun f cdv A outer s H E hr => ⟨_, dv_has_power T D1 hr, ?_⟩
  rintro vs Q ⟨pl, st, ob⟩ G F dj al ⟨hp, hl, hb⟩ k
  obtain ⟨v0, v1, v2, rfl, p0, p1, p2⟩ := al3 al
  have p1' : D K (.tuple (st.map PyData.bool)) v1 G := p1
  cases ob with
  | none => exact s_ret dj (ev_andV (b := true) (ev_notN (ev_v rfl p2)) fun q => nomatch q) k
  | some b =>
    have hbn : b < pl.rates.length := hb b rfl
    have hp : PlOk pl := hp
    have hl : st.length = pl.rates.length := hl
    refine s_ret dj (ev_andV (a := true) (ev_notN (ev_v rfl p2)) fun _ => ev_allM (xs := lineUp pl.above b) (f := fun i => st.getD i false) (Ev.l (e_lcM (xs := lineUp pl.above b) (enc := fun (i : Nat) => PyData.int (i : Int)) (fun i => .bool (st.getD i false)) (ei_tup (c_line_up (pl, b) (ea_cons (ev_var rfl mo_Pl p0) mo_Pl (ea_d (ev_v rfl p2) ea_nil)) ⟨hp, hbn⟩)) ?_ (fun _ => rfl) fun i x G' hm e r => ?_))) k
    · have := lineUp_len hp.tr b b (Nat.le_refl _)
      have := hp.n2
      have : b < pl.rates.length := hbn
      omega
    · have hi := lineUp_le hp.tr b b (Nat.le_refl _) i hm
      have hlt : i < st.length := by rw [hl]; omega
      exact ev_ixT (ds := st.map PyData.bool) (ev_v rfl (p1'.ex e)) (ev_v rfl r) (by rw [List.getElem?_map, List.getElem?_eq_getElem hlt, List.getD_eq_getElem?_getD, List.getElem?_eq_getElem hlt]; rfl)

end
end Bf
set_option Elab.async false
set_option linter.all false
set_option maxRecDepth 100000
set_option maxHeartbeats 4000000
namespace Bf
open PySem PyProof.Rows L2
section
variable {P : Program} {w : World} {K : PySem.W.Frag} {mg : Str → Option Value} {base : Heap} {C : Addr}
theorem eqvI {a b : Int} : PyData.eqv (.int a) (.int b) = decide (a = b) := by
  show (a == b) = _
  exact Bool.beq_eq_decide_eq a b
theorem opts_of {l : List (Option Nat)} {i : Nat} {o : Option Nat} (h : l[i]? = some o) : (l.map eOpt)[i]? = some (eOpt o) := by rw [List.getElem?_map, h]; rfl
theorem fd_is_wiring (F : Df K mg "is_wiring" st_is_wiring) (T : Txf mg) (PP : PlP P w K mg base C) (D1 : FD P w K mg base 1 "is_number" ps_is_number (sp_is_number K C)) (D2 : FD P w K mg base 3 "does_follow" ps_does_follow (sp_does_follow K C)) : FD P w K mg base 4 "is_wiring" ps_is_wiring (sp_is_wiring K C) := by
  refine fd_S F sc_is_wiring rfl (fun _ _ _ _ _ _ us hl => match us, hl with | [_, _], _ => rfl) fun f cdv A outer s H E hr => ⟨_, dv_is_wiring T D2 D1 PP hr, ?_⟩
  rintro vs Q ⟨pl, wir⟩ G F dj al ⟨hp, hw, hf⟩ k
  have hp : PlOk pl := hp
  have hw : WirOk pl wir := hw
  obtain ⟨v0, v1, rfl, p0, p1⟩ := al2 al
  have p0 : Pl K C pl v0 G := p0
  have p1 : D K (.tuple (wir.map eOpt)) v1 G := p1
  have hn := hp.n2
  have hn1 := hp.n1
  refine s_no dj ((et_or (et_not (et_B (ev_isiTup (b := true) (ev_v rfl p1) (by decide +kernel)))) fun _ => et_test (ev_neD (ev_lenT (ev_v rfl p1)) (ev_lenT (ds := pl.points.map ePoint) (ev_prop (sp := fun pl => D K (ePoints pl.points)) (ev_var rfl mo_Pl p0) rfl)) rfl rfl)).of ?_) fun G1 e1 d1 => s_nx ?_
  · rw [eqvI, List.length_map, List.length_map, hw.1]
    simp
  · have p0 := mo_Pl _ _ _ e1 p0
    have p1 := p1.ex e1
    refine s_no d1 ((et_not (et_B (ev_allM (xs := wir) (f := fun _ => true) (Ev.l (e_lcM (enc := eOpt) (fun _ => .bool true) (ei_tup (ev_v rfl p1)) (by have := hw.1; have := hp.p2; omega) (fun _ => rfl) fun ob x G' hm e r => ?_))))).of ?_) fun G2 e2 d2 => s_nx ?_
    · have p0' := mo_Pl _ _ _ e p0
      cases ob with
      | none => exact ev_orV (a := true) (b := true) (ev_isN (ev_v rfl r)) fun q => nomatch q
      | some b =>
        have hb : b < pl.rates.length := hw.2 b hm
        have r : D K (.int (b : Int)) x G' := r
        refine (ev_orV (a := false) (b := true) (ev_isN (ev_v rfl r)) fun _ => (c_is_number ((b : Int), 0, (pl.rates.length : Int) - 1) (ea_d (ev_v rfl r) (ea_d (ev_int 0) (ea_d (ev_sub (ev_lenO (ev_var rfl mo_Pl p0') rfl (by omega)) (ev_int 1)) ea_nil))) trivial).of ?_)
        show PyData.bool (decide ((0 : Int) ≤ (b : Int)) && decide ((b : Int) ≤ (pl.rates.length : Int) - 1)) = _
        rw [decide_eq_true (by omega), decide_eq_true (by omega)]
        rfl
    · rw [all_true fun _ _ => rfl]
      rfl
    · exact s_ret d2 (c_does_follow (pl, wir) (ea_cons (ev_var rfl mo_Pl (mo_Pl _ _ _ e2 p0)) mo_Pl (ea_d (ev_v rfl (p1.ex e2)) ea_nil)) ⟨hp, hw, hf⟩) fun v G3 e3 d3 p => k v G3 ((e1.trans e2).trans e3) d3 p
theorem fd_check_wiring (F : Df K mg "check_wiring" st_check_wiring) (T : Txf mg) (D1 : FD P w K mg base 4 "is_wiring" ps_is_wiring (sp_is_wiring K C)) : FD P w K mg base 5 "check_wiring" ps_check_wiring (sp_check_wiring K C) := by
  refine fd_S F sc_check_wiring rfl (fun _ _ _ _ _ _ us hl => match us, hl with | [_, _], _ => rfl) fun f cdv A outer s H E hr => ⟨_, dv_check_wiring T D1 hr, ?_⟩
  rintro vs Q ⟨pl, wir⟩ G F dj al ho k
  obtain ⟨v0, v1, rfl, p0, p1⟩ := al2 al
  exact s_no dj ((et_not (et_B (c_is_wiring (pl, wir) (ea_cons (ev_var rfl mo_Pl p0) mo_Pl (ea_d (ev_v rfl p1) ea_nil)) ho))).of rfl) fun G1 e1 d1 => s_nx (s_nx (k _ G1 e1 d1 dNon))
theorem fd_check_breaker (F : Df K mg "check_breaker" st_check_breaker) (T : Txf mg) (PP : PlP P w K mg base C) (D1 : FD P w K mg base 1 "is_number" ps_is_number (sp_is_number K C)) : FD P w K mg base 3 "check_breaker" ps_check_breaker (sp_check_breaker K C) := by
  refine fd_S F sc_check_breaker rfl (fun _ _ _ _ _ _ us hl => match us, hl with | [_, _], _ => rfl) fun f cdv A outer s H E hr => ⟨_, dv_check_breaker T D1 PP hr, ?_⟩
  rintro vs Q ⟨pl, b⟩ G F dj al ⟨hp, hb⟩ k
  obtain ⟨v0, v1, rfl, p0, p1⟩ := al2 al
  have hp : PlOk pl := hp
  have hb : b < pl.rates.length := hb
  have hn := hp.n2
  refine s_no dj ((et_not (et_B (c_is_number ((b : Int), 0, (pl.rates.length : Int) - 1) (ea_d (ev_v rfl p1) (ea_d (ev_int 0) (ea_d (ev_sub (ev_lenO (ev_var rfl mo_Pl p0) rfl (by omega)) (ev_int 1)) ea_nil))) trivial))).of ?_) fun G1 e1 d1 => s_nx (s_nx (k _ G1 e1 d1 dNon))
  show (!(decide ((0 : Int) ≤ (b : Int)) && decide ((b : Int) ≤ (pl.rates.length : Int) - 1))) = false
  rw [decide_eq_true (by omega), decide_eq_true (by omega)]
  rfl
theorem fd_check_count (F : Df K mg "check_count" st_check_count) (T : Txf mg) (D1 : FD P w K mg base 1 "is_number" ps_is_number (sp_is_number K C)) : FD P w K mg base 2 "check_count" ps_check_count (sp_check_count K C) := by
  refine fd_S F sc_check_count rfl (fun _ _ _ _ _ _ us hl => match us, hl with | [_, _], _ => rfl) fun f cdv A outer s H E hr => ⟨_, dv_check_count T D1 hr, ?_⟩
  rintro vs Q ⟨n, m⟩ G F dj al ho k
  have ho : n ≤ m := ho
  obtain ⟨v0, v1, rfl, p0, p1⟩ := al2 al
  refine s_no dj ((et_not (et_B (c_is_number ((n : Int), 0, (m : Int)) (ea_d (ev_v rfl p0) (ea_d (ev_int 0) (ea_d (ev_v rfl p1) ea_nil))) trivial))).of ?_) fun G1 e1 d1 => s_nx (s_nx (k _ G1 e1 d1 dNon))
  show (!(decide ((0 : Int) ≤ (n : Int)) && decide ((n : Int) ≤ (m : Int)))) = false
  rw [decide_eq_true (by omega), decide_eq_true (by omega)]
  rfl
theorem fd_is_timer (F : Df K mg "is_timer" st_is_timer) (T : Txf mg) (D1 : FD P w K mg base 1 "is_number" ps_is_number (sp_is_number K C)) : FD P w K mg base 2 "is_timer" ps_is_timer (sp_is_timer K C) := by
  refine fd_S F sc_is_timer rfl (fun _ _ _ _ _ _ us hl => match us, hl with | [_], _ => rfl) fun f cdv A outer s H E hr => ⟨_, dv_is_timer T D1 hr, ?_⟩
  rintro vs Q tm G F dj al ⟨h1, h2, h3, h4, h5⟩ k
  obtain ⟨v0, rfl, p0⟩ := al1 al
  have q0 : D K (.tuple [.int tm.b, .int tm.e, .int tm.v]) v0 G := p0
  refine s_no dj ((et_or (et_not (et_B (ev_isiTup (b := true) (ev_v rfl q0) (by decide +kernel)))) fun _ => et_or (et_test (ev_neD (ev_lenT (ev_v rfl q0)) (ev_int 3) rfl rfl)) fun _ => et_not (et_B (c_is_number ((tm.b : Int), 0, 23) (ea_d (ev_ixT (i := 0) (ev_v rfl q0) (ev_int 0) rfl) (ea_d (ev_int 0) (ea_d (ev_sub (ev_int 24) (ev_int 1)) ea_nil))) trivial))).of ?_) fun G1 e1 d1 => s_nx ?_
  · show (!true || (!PyData.eqv (.int 3) (.int 3) || !(decide ((0 : Int) ≤ (tm.b : Int)) && decide ((tm.b : Int) ≤ 23)))) = false
    rw [decide_eq_true (by omega), decide_eq_true (by omega)]
    rfl
  · have q1 := q0.ex e1
    refine s_ret d1 ((ev_andV (c_is_number ((tm.e : Int), (tm.b : Int) + 1, 24) (ea_d (ev_ixT (i := 1) (ev_v rfl q1) (ev_int 1) rfl) (ea_d (ev_plusI (ev_ixT (i := 0) (ev_v rfl q1) (ev_int 0) rfl) (ev_int 1)) (ea_d (ev_int 24) ea_nil))) trivial) fun _ => c_is_number ((tm.v : Int), 1, 9) (ea_d (ev_ixT (i := 2) (ev_v rfl q1) (ev_int 2) rfl) (ea_d (ev_int 1) (ea_d (ev_int 9) ea_nil))) trivial).of ?_) fun v G2 e2 d2 p => k v G2 (e1.trans e2) d2 p
    show PyData.bool ((decide ((tm.b : Int) + 1 ≤ (tm.e : Int)) && decide ((tm.e : Int) ≤ 24)) && (decide ((1 : Int) ≤ (tm.v : Int)) && decide ((tm.v : Int) ≤ 9))) = _
    rw [decide_eq_true (by omega), decide_eq_true (by omega), decide_eq_true (by omega), decide_eq_true (by omega)]
    rfl
/-! ### the currents -/
theorem set_add {n j : Nat} {g : Nat → Int} {b : Int} (hj : j < n) : (((List.range n).map g).set j (g j + b)) = (List.range n).map fun i => g i + if i = j then b else 0 := by
  apply List.ext_getElem?
  intro i
  by_cases hi : i = j
  · subst hi
    rw [List.getElem?_set_self (by simpa using hj), List.getElem?_map, List.getElem?_range hj]
    simp
  · rw [List.getElem?_set_ne (Ne.symm hi), List.getElem?_map, List.getElem?_map]
    by_cases h2 : i < n
    · rw [List.getElem?_range h2]
      simp [hi]
    · rw [List.getElem?_eq_none (by simpa using h2)]
      rfl
theorem curOf_snoc {pl : PlanD} {st : List Bool} {loads : Loads} {qs : List (Str × Option Nat)} {q : Str × Option Nat} {i : Nat} : curOf pl st loads (qs ++ [q]) i = curOf pl st loads qs i + if addsTo pl st i q then loadOf loads q.1 else 0 := by
  unfold curOf
  rw [List.filter_append, List.map_append, List.sum_append]
  cases h : addsTo pl st i q with
  | true => rw [List.filter_cons_of_pos h]; simp
  | false => rw [List.filter_cons_of_neg (by rw [h]; decide)]; simp
theorem take_snoc {α : Type} {l : List α} {i : Nat} {x : α} (h : l[i]? = some x) : l.take (i + 1) = l.take i ++ [x] := by rw [List.take_succ, h]; rfl
theorem ints_at {n j : Nat} {g : Nat → Int} (hj : j < n) : (((List.range n).map g).map V.int)[j]? = some (.int (g j)) := by
  rw [List.getElem?_map, List.getElem?_map, List.getElem?_range hj]; rfl
theorem getK_loads {loads : Loads} {n : Str} : (getK (eLoads loads) n).getD (.int 0) = .int (loadOf loads n) := by
  unfold loadOf
  induction loads with
  | nil => rfl
  | cons p r ih =>
    show (getK ((p.1, PyData.int p.2) :: eLoads r) n).getD (.int 0) = _
    rw [getK_cons, getK_cons]
    by_cases h : p.1 = n
    · rw [if_pos h, if_pos h]; rfl
    · rw [if_neg h, if_neg h]; exact ih
theorem fd_currents_in (F : Df K mg "currents_in" st_currents_in) (T : Txf mg) (PP : PlP P w K mg base C) (D1 : FD P w K mg base 4 "has_power" ps_has_power (sp_has_power K C)) (D2 : FD P w K mg base 3 "line_up" ps_line_up (sp_line_up K C)) : FD P w K mg base 5 "currents_in" ps_currents_in (sp_currents_in K C) := by
  refine fd_S F sc_currents_in rfl (fun _ _ _ _ _ _ us hl => match us, hl with | [_, _, _, _], _ => rfl) fun f cdv A outer s H E hr => ⟨_, dv_currents_in T D1 D2 PP hr, ?_⟩
  rintro vs Q ⟨pl, wir, st, loads⟩ G F dj al ⟨hp, hw, hl⟩ k
  have hp : PlOk pl := hp
  have hw : WirOk pl wir := hw
  have hl : st.length = pl.rates.length := hl
  obtain ⟨v0, v1, v2, v3, rfl, p0, p1, p2, p3⟩ := al4 al
  have p0 : Pl K C pl v0 G := p0
  have p1 : D K (.tuple (wir.map eOpt)) v1 G := p1
  have p2 : D K (eBools st) v2 G := p2
  have p3 : Dk K (eLoads loads) v3 G := p3
  have hn := hp.n2
  refine s_setN dj (en_lcM (xs := pl.rates) (enc := PyData.int) (fun _ => .int 0) (ei_tup (ev_prop (sp := fun pl => D K (eRates pl.rates)) (ev_var rfl mo_Pl p0) rfl)) (by omega) (fun _ => rfl) fun _ _ _ _ _ _ => ev_int 0) fun p xs G1 e1 n1 d1 al1 => ?_
  have hx0 : xs = ((List.range pl.rates.length).map fun i => curOf pl st loads [] i).map V.int := by
    have e : (pl.rates.map fun _ => PyData.int 0) = ((List.range pl.rates.length).map fun i => curOf pl st loads [] i).map PyData.int := by
      rw [List.map_map]
      apply List.ext_getElem?
      intro i
      rw [List.getElem?_map, List.getElem?_map]
      by_cases hi : i < pl.rates.length
      · rw [List.getElem?_range hi, List.getElem?_eq_getElem hi]; rfl
      · rw [List.getElem?_eq_none (by simpa using hi), List.getElem?_eq_none (by simpa using hi)]; rfl
    rw [e] at al1
    exact dpA_ints al1
  subst hx0
  refine s_for d1 (ei_zipT (ea := PyData.str) (eb := eOpt) (as := pl.names) (bs := wir) (ev_prop (sp := fun pl => D K (eNames pl.names)) (ev_var rfl mo_Pl (mo_Pl _ _ _ e1 p0)) rfl) (ev_v rfl (p1.ex e1))) fun G2 e2 d2 => ⟨fun i σ G' F' => F' = upd F p (.lst (((List.range pl.rates.length).map fun j => curOf pl st loads ((pl.names.zip wir).take i) j).map V.int)) ∧ ∃ o6 o7 o8, σ = [some v0, some v1, some v2, some v3, none, some (.ref p), o6, o7, o8],
    ⟨rfl, none, none, none, rfl⟩, ?_, fun i σ' G0 G' F' _ h => h, ?_⟩
  · rintro i ⟨nm, ob⟩ x σ' G3 F' hi e3 d3 r ⟨rfl, o6, o7, o8, rfl⟩
    have E3 : Ex G G3 := (e1.trans e2).trans e3
    refine (eg_pair r) G3 (Ex.refl _) _ d3 _ fun σ2 ⟨a, b, hs2, r1, r2⟩ => ?_
    subst hs2
    obtain ⟨hi1, hi2⟩ := zip_at hi
    have hob : ∀ b, ob = some b → b < pl.rates.length := fun b hb => hw.2 b (by rw [hb] at hi2; exact List.mem_of_getElem? hi2)
    have r1 : D K (.str nm) a G3 := r1
    have r2 : D K (eOpt ob) b G3 := r2
    have tk := take_snoc hi
    refine s_if d3 (et_B (c_has_power (pl, st, ob) (ea_cons (ev_var rfl mo_Pl (mo_Pl _ _ _ E3 p0)) mo_Pl (ea_d (ev_v rfl (p2.ex E3)) (ea_d (ev_v rfl r2) ea_nil))) ⟨hp, hl, hob⟩)) (fun hb G4 e4 d4 => ?_) fun hb G4 e4 d4 => ?_
    · have hb : hasPw pl.above st ob = true := hb
      cases ob with
      | none => cases hb
      | some br =>
        have hbr := hob br rfl
        have r2 : D K (.int (br : Int)) b G3 := r2
        have E4 := E3.trans e4
        refine s_for d4 (ei_tup (as := lineUp pl.above br) (enc := fun (n : Nat) => PyData.int (n : Int)) (c_line_up (pl, br) (ea_cons (ev_var rfl mo_Pl (mo_Pl _ _ _ E4 p0)) mo_Pl (ea_d (ev_v rfl (r2.ex e4)) ea_nil)) ⟨hp, hbr⟩)) fun G5 e5 d5 => ⟨fun m σ G' F' => F' = upd F p (.lst (((List.range pl.rates.length).map fun j => curOf pl st loads ((pl.names.zip wir).take i) j + if j ∈ (lineUp pl.above br).take m then loadOf loads nm else 0).map V.int)) ∧ ∃ o8, σ = [some v0, some v1, some v2, some v3, none, some (.ref p), some a, some b, o8],
          ⟨?_, o8, rfl⟩, ?_, fun i σ' G0 G' F' _ h => h, ?_⟩
        · simp
        · rintro m one y σ3 G6 F3 hm e6 d6 ry ⟨rfl, o8', rfl⟩
          have hone := lineUp_le hp.tr br br (Nat.le_refl _) one (List.mem_of_getElem? hm)
          have hlt : one < pl.rates.length := by omega
          have E6 := (E4.trans e5).trans e6
          refine s_augL d6 upd_same rfl (fun G' e => ev_v rfl (ry.ex e)) (ints_at hlt) (fun G' e => (ev_dget2 (d := .int 0) (ev_var rfl mo_Dk (mo_Dk _ _ _ (E6.trans e) p3)) (ev_v rfl (r1.ex (((e4.trans e5).trans e6).trans e))) (ev_int 0)).of getK_loads) fun G7 e7 d7 => ?_
          rw [upd_upd] at d7 ⊢
          refine s_iv (e6.trans e7) d7 rfl ⟨?_, some y, rfl⟩
          congr 2
          rw [← List.map_set, set_add hlt]
          congr 1
          apply List.map_congr_left
          intro j hj
          have tk2 := take_snoc hm
          have nd := lineUp_nd hp.tr br br (Nat.le_refl _)
          rw [tk2]
          have hnot : one ∉ (lineUp pl.above br).take m := by
            intro hmem
            obtain ⟨i', hi'⟩ := List.getElem?_of_mem hmem
            have hlt' : i' < m := by
              have := (List.getElem?_eq_some_iff.mp hi').1
              rw [List.length_take] at this
              omega
            rw [List.getElem?_take_of_lt hlt'] at hi'
            have := (List.getElem?_inj (by have := (List.getElem?_eq_some_iff.mp hi').1; exact this) nd).mp (hi'.trans hm.symm)
            omega
          by_cases hjo : j = one
          · subst hjo
            rw [if_neg hnot, if_pos rfl, if_pos (by simp)]
            show _ + (0 : Int) + loadOf loads nm = _ + loadOf loads nm
            rw [Int.add_zero]
          · rw [if_neg hjo]
            have : (j ∈ (lineUp pl.above br).take m ++ [one]) ↔ j ∈ (lineUp pl.above br).take m := by simp [hjo]
            by_cases h2 : j ∈ (lineUp pl.above br).take m
            · rw [if_pos h2, if_pos (this.mpr h2)]; omega
            · rw [if_neg h2, if_neg (fun z => h2 (this.mp z))]; omega
        · rintro σ3 G6 F3 e6 d6 ⟨rfl, o8', rfl⟩
          refine s_nx (s_iv (((e3.trans e4).trans e5).trans e6) d6 rfl ⟨?_, _, _, _, rfl⟩)
          congr 3
          apply List.map_congr_left
          intro j hj
          rw [tk, curOf_snoc, List.take_length]
          congr 1
          have e : addsTo pl st j (nm, some br) = (lineUp pl.above br).contains j := by
            unfold addsTo
            show (hasPw pl.above st (some br) && (lineUp pl.above br).contains j) = _
            rw [hb]; rfl
          rw [e]
          by_cases h2 : j ∈ lineUp pl.above br
          · rw [if_pos h2, if_pos (by simpa using h2)]
          · rw [if_neg h2, if_neg (by simpa using h2)]
    · have hb : hasPw pl.above st ob = false := hb
      refine s_nx (s_nx (s_iv (e3.trans e4) d4 rfl ⟨?_, _, _, _, rfl⟩))
      congr 3
      apply List.map_congr_left
      intro j hj
      rw [tk, curOf_snoc]
      have e : addsTo pl st j (nm, ob) = false := by unfold addsTo; rw [show hasPw pl.above st (nm, ob).2 = false from hb]; rfl
      rw [e]
      simp
  · rintro σ' G3 F' e3 d3 ⟨rfl, o6, o7, o8, rfl⟩
    rw [List.take_length] at d3 ⊢
    have n3 := d3.n (a := p) upd_same
    rw [upd_lr n3]
    have d4 : Dj (upd G3 p (.lst (((List.range pl.rates.length).map fun j => curOf pl st loads (pl.names.zip wir) j).map V.int))) F := (d3.off n1).newL n1
    refine s_ret d4 (ev_tupL (ds := (curs pl wir st loads).map PyData.int) (ev_v rfl (dLst upd_same (ints_dpA _)))) fun v G5 e5 d5 q => k v G5 (((e1.trans e2).trans e3).trans ((Ex.new n3).trans e5)) d5 q

end
end Bf
set_option Elab.async false
set_option linter.all false
set_option maxRecDepth 100000
set_option maxHeartbeats 4000000
namespace Bf
open PySem PyProof.Rows L2
section
variable {P : Program} {w : World} {K : PySem.W.Frag} {mg : Str → Option Value} {base : Heap} {C : Addr}
/-! ### sorted keys of an ascending table -/
theorem ltCps_iff : ∀ a b : List Nat, Spec.ltCps a b = true ↔ a < b
  | [], [] => by simp [Spec.ltCps]
  | [], _ :: _ => by simp [Spec.ltCps]
  | _ :: _, [] => by simp [Spec.ltCps]
  | a :: r, b :: t => by
    rw [Spec.ltCps, List.cons_lt_cons_iff]
    simp only [Bool.or_eq_true, decide_eq_true_eq, Bool.and_eq_true, beq_iff_eq, ltCps_iff r t]
theorem lt_asym_l {a b : List Nat} (h : a < b) : ¬ b < a := List.lt_asymm h
theorem rising_pw : ∀ (p : Str) (l : List Str), risingS p l = true → (p :: l).Pairwise fun a b => ¬ b.cps.toList < a.cps.toList
  | p, [], _ => by simp
  | p, x :: r, h => by
    rw [risingS, Bool.and_eq_true] at h
    have ih := rising_pw x r h.2
    have h1 : ¬ x.cps.toList < p.cps.toList := fun z => by
      have := (ltCps_iff _ _).mpr z
      rw [this] at h
      simp at h
    refine List.pairwise_cons.mpr ⟨fun y hy => ?_, ih⟩
    rcases List.mem_cons.mp hy with rfl | hy
    · exact h1
    · have h2 := (List.pairwise_cons.mp ih).1 y hy
      exact List.le_trans (List.not_lt.mp h1) (List.not_lt.mp h2)
theorem sortedS_pw {l : List Str} (h : sortedS l = true) : l.Pairwise fun a b => ¬ b.cps.toList < a.cps.toList := by
  cases l with
  | nil => exact .nil
  | cons x r => exact rising_pw x r h
theorem str_ext {a b : Str} (h : a.cps.toList = b.cps.toList) : a = b := by
  cases a; cases b
  congr 1
  exact Array.ext' h
theorem asc_perm {ys ks : List Str} (hp : ys.Perm ks) (hs : sortedS ys = true) (ha : Asc ks) : ys = ks := by
  refine List.Perm.eq_of_pairwise (le := fun a b => ¬ b.cps.toList < a.cps.toList) (fun a b _ _ h1 h2 => ?_) (sortedS_pw hs) (ha.imp fun h => lt_asym_l h) hp
  exact str_ext (List.le_antisymm (List.not_lt.mp h1) (List.not_lt.mp h2))
theorem asc_nodup {ks : List Str} (h : Asc ks) : ks.Nodup := h.imp fun {a b} h e => by
  subst e
  exact List.lt_irrefl _ h
section
variable {σ : St} {G G' F : Hp} {ta tb te tx td ty to ti : TE} {t u : L2.TT} {P' P1 P2 : V → Hp → Prop} {v : V} {α β : Type}
/-- what ascends comes out as it stands -/
theorem ev_sortA {kvs : List (Str × PyData)} (ha : Ev td σ G (Dk K kvs)) (hl : kvs.length < 64) (as : Asc (kvs.map Prod.fst)) : Ev (tCB rSortDk (tCons td tNil)) σ G (Lx K ((kvs.map Prod.fst).map PyData.str)) :=
  (ev_sortDk ha hl).imp fun v G' _ ⟨ys, hp, hs, q⟩ => by rw [asc_perm hp hs as] at q; exact q
theorem ev_cd {d : PyData} (h : D K d v G) : Ev (tC v) σ G (D K d) := fun G1 a F dj Q q => q v G1 (Ex.refl _) dj (h.ex a)
/-- a loop over a list of which the items are known by what holds of them -/
theorem s_forE {tl : TE} {g : TG} {ty tz : TS} {E : Ends} {P : V → Hp → Prop} (dj : Dj G F) (h : Ev tl σ G P) (k : ∀ v G1, Ex G G1 → Dj G1 F → P v G1 → tSeq (tFor (iList K (tC v)) g ty) tz E σ (un G1 F)) : tSeq (tFor (iList K tl) g ty) tz E σ (un G F) := h.run dj k
theorem eLoads_keys {l : Loads} : (eLoads l).map Prod.fst = l.map Prod.fst := by unfold eLoads; rw [List.map_map]; rfl
theorem eTimers_keys {l : Timers} : (eTimers l).map Prod.fst = l.map Prod.fst := by unfold eTimers; rw [List.map_map]; rfl
theorem getK_map {β γ : Type} (f : β → γ) (l : List (Str × β)) (s : Str) : getK (l.map fun p => (p.1, f p.2)) s = (getK l s).map f := by
  induction l with
  | nil => rfl
  | cons p r ih =>
    rw [List.map_cons, getK_cons, getK_cons]
    by_cases h : p.1 = s
    · rw [if_pos h, if_pos h]; rfl
    · rw [if_neg h, if_neg h]; exact ih
theorem getK_mem {β : Type} {l : List (Str × β)} {s : Str} {b : β} (h : getK l s = some b) : (s, b) ∈ l := by
  induction l with
  | nil => cases h
  | cons p r ih =>
    rw [getK_cons] at h
    by_cases e : p.1 = s
    · rw [if_pos e] at h
      cases h
      rw [← e]
      exact List.mem_cons_self
    · rw [if_neg e] at h
      exact List.mem_cons_of_mem _ (ih h)
theorem getK_some {β : Type} {l : List (Str × β)} {s : Str} (h : s ∈ l.map Prod.fst) : ∃ b, getK l s = some b := by
  induction l with
  | nil => cases h
  | cons p r ih =>
    rw [getK_cons]
    by_cases e : p.1 = s
    · rw [if_pos e]; exact ⟨_, rfl⟩
    · rw [if_neg e]
      rcases List.mem_cons.mp h with z | z
      · exact absurd z.symm e
      · exact ih z
theorem getK_none {β : Type} {l : List (Str × β)} {s : Str} (h : s ∉ l.map Prod.fst) : getK l s = none := by
  cases e : getK l s with
  | none => rfl
  | some b => exact absurd (List.mem_map.mpr ⟨_, getK_mem e, rfl⟩) h
theorem getK_loadsO {l : Loads} {s : Str} : getK (eLoads l) s = (getK l s).map PyData.int := getK_map _ l s
theorem getK_timers {l : Timers} {s : Str} : getK (eTimers l) s = (getK l s).map eTm := getK_map _ l s
end
theorem fd_are_above (F : Df K mg "are_above" st_are_above) (T : Txf mg) (D1 : FD P w K mg base 1 "is_number" ps_is_number (sp_is_number K C)) : FD P w K mg base 2 "are_above" ps_are_above (sp_are_above K C) := by
  refine fd_S F sc_are_above rfl (fun _ _ _ _ _ _ us hl => match us, hl with | [_, _], _ => rfl) fun f cdv A outer s H E hr => ⟨_, dv_are_above T D1 hr, ?_⟩
  rintro vs Q pl G F dj al hp k
  obtain ⟨v0, v1, rfl, p0, p1⟩ := al2 al
  have hp : PlOk pl := hp
  have q0 : D K (.tuple (pl.above.map eOpt)) v0 G := p0
  have hn := hp.n2
  have hal := hp.al
  refine s_no dj ((et_test (ev_neD (ev_lenT (ev_v rfl q0)) (ev_v rfl p1) rfl rfl)).of ?_) fun G1 e1 d1 => s_nx ?_
  · rw [eqvI, List.length_map, hal]
    simp
  · refine s_ret d1 ((ev_allM (xs := enumL pl.above) (f := fun _ => true) (Ev.l (e_lcPM (e1 := fun (ab : Nat × Option Nat) => PyData.int (ab.1 : Nat)) (e2 := fun ab => eOpt ab.2) (fun _ => .bool true) (ei_enumT (enc := eOpt) (ev_v rfl (q0.ex e1))) (by rw [enum_len]; omega) (fun _ _ => rfl) fun ab x y G' hm e r1 r2 => ?_))).of ?_) fun v G2 e2 d2 p => k v G2 (e1.trans e2) d2 p
    · obtain ⟨i, o⟩ := ab
      obtain ⟨j, hj⟩ := List.getElem?_of_mem hm
      obtain ⟨rfl, ho⟩ := enum_at hj
      cases o with
      | none => exact ev_orV (a := true) (b := true) (ev_isN (ev_v rfl r2)) fun q => nomatch q
      | some b =>
        have hlt := hp.tr i b ho
        have r2 : D K (.int (b : Int)) y G' := r2
        have r1 : D K (.int (i : Int)) x G' := r1
        refine (ev_orV (a := false) (b := true) (ev_isN (ev_v rfl r2)) fun _ => (c_is_number ((b : Int), 0, (i : Int) - 1) (ea_d (ev_v rfl r2) (ea_d (ev_int 0) (ea_d (ev_sub (ev_v rfl r1) (ev_int 1)) ea_nil))) trivial).of ?_)
        show PyData.bool (decide ((0 : Int) ≤ (b : Int)) && decide ((b : Int) ≤ (i : Int) - 1)) = _
        rw [decide_eq_true (by omega), decide_eq_true (by omega)]
        rfl
    · rw [all_true fun _ _ => rfl]
theorem fr_names {g : Addr} (F : Dm K "names" "Plan.names" st_Plan_names g) (T : Txf mg) (hf : PlF K C) : FnR P w K mg base CX0 1 g (sp_names K C) := by
  refine fr_raw (fr_ok F sc_Plan_names (fun _ _ _ _ _ _ us hl => match us, hl with | [_], _ => rfl) (fun vs H Q E h => h.1) fun cdv A outer s H vs Q E hr h => ?_)
  obtain ⟨_, pl, G, F, rfl, dj, al, _, k⟩ := h
  obtain ⟨v0, rfl, p0⟩ := al1 al
  have hl := p0.n
  refine ⟨_, dv_Plan_names (C := C) T hr, s_ret dj ((ev_tupL (Ev.l (e_lcM (xs := pl.points) (enc := ePoint) (fun p => .str p.1) (ei_tup (ev_ixT (i := 2) (ev_parts hf (ev_var rfl mo_Pl p0)) (ev_int 2) rfl)) (by omega) (fun _ => rfl) fun p x G' hm e r => ?_))).of ?_) k⟩
  · have r : D K (.tuple [.str p.1, .str p.2.1, .int p.2.2]) x G' := r
    exact ev_ixT (i := 0) (ev_v rfl r) (ev_int 0) rfl
  · unfold eNames PlanD.names
    rw [List.map_map]
    rfl
theorem fr_len {g : Addr} (F : Dm K "__len__" "Plan.__len__" st_Plan___len__ g) (T : Txf mg) (hf : PlF K C) : FnR P w K mg base CX0 1 g (sp_len K C) :=
  fr_prop F sc_Plan___len__ (fun _ _ _ _ _ _ us hl => match us, hl with | [_], _ => rfl) (fun cdv A outer s H E hr => dv_Plan___len__ (C := C) T hr) fun v0 Q pl G F dj p0 k => s_ret dj ((ev_lenT (ds := pl.rates.map PyData.int) (ev_ixT (i := 0) (ev_parts hf (ev_var rfl mo_Pl p0)) (ev_int 0) rfl)).of (by rw [List.length_map])) k
theorem notIn_names {l : List Str} {n : Str} (h : n ∈ l) : (if true = true then !inV (vOf (.str n)) ((l.map PyData.str).map vOf) else inV (vOf (.str n)) ((l.map PyData.str).map vOf)) = false := by
  rw [if_pos rfl]
  have e : (l.map PyData.str).map vOf = l.map V.str := by rw [List.map_map]; rfl
  rw [e]
  show (!inV (.str n) (l.map V.str)) = false
  rw [inV_names]
  simp [h]
theorem flat_names {l : List Str} : (l.map PyData.str).all flatD = true := by
  rw [List.all_map]
  exact List.all_eq_true.mpr fun _ _ => rfl
theorem fd_wrong_load (F : Df K mg "wrong_load" st_wrong_load) (T : Txf mg) (PP : PlP P w K mg base C) (D1 : FD P w K mg base 1 "is_number" ps_is_number (sp_is_number K C)) : FD P w K mg base 3 "wrong_load" ps_wrong_load (sp_wrong_load K C) := by
  refine fd_S F sc_wrong_load rfl (fun _ _ _ _ _ _ us hl => match us, hl with | [_, _], _ => rfl) fun f cdv A outer s H E hr => ⟨_, dv_wrong_load T D1 PP hr, ?_⟩
  rintro vs Q ⟨pl, loads⟩ G F dj al ⟨hp, hl⟩ k
  obtain ⟨v0, v1, rfl, p0, p1⟩ := al2 al
  have hl : LdOk pl loads := hl
  obtain ⟨h1, h2, h3⟩ := hl
  have p1 : Dk K (eLoads loads) v1 G := p1
  have hlen : (eLoads loads).length < 64 := by unfold eLoads; rw [List.length_map]; omega
  refine s_for dj (ei_list (as := loads.map Prod.fst) (enc := PyData.str) ((ev_sortA (ev_var rfl mo_Dk p1) hlen (by rw [eLoads_keys]; exact h1)).imp fun v G' _ q => by rw [eLoads_keys] at q; exact q.d)) fun G1 e1 d1 => ⟨fun _ σ _ F' => F' = F ∧ ∃ o2, σ = [some v0, some v1, o2], ⟨rfl, none, rfl⟩, ?_, fun _ _ _ _ _ _ h => h, ?_⟩
  · rintro i nm x σ' G2 F' hi e2 d2 r ⟨rfl, o2, rfl⟩
    have e := e1.trans e2
    have hm : nm ∈ loads.map Prod.fst := List.mem_of_getElem? hi
    obtain ⟨c, hc⟩ := getK_some hm
    have hin := h3 _ (getK_mem hc)
    refine (eg_name (G := G2)) G2 (Ex.refl _) _ d2 _ fun σ2 hs2 => ?_
    subst hs2
    have g1 := mo_Dk _ _ _ e p1
    refine s_no d2 ((et_or (et_test (ev_inT (d := .str nm) (ds := pl.names.map PyData.str) (neg := true) (ev_v rfl r) (ev_prop (sp := fun pl => D K (eNames pl.names)) (ev_var rfl mo_Pl (mo_Pl _ _ _ e p0)) rfl) rfl flat_names)) fun _ => et_not (et_B (c_is_number (c, 1, 99) (ea_d (ev_dget (s := nm) (d := .int c) (ev_var rfl mo_Dk g1) (ev_v rfl r) (by rw [getK_loadsO, hc]; rfl)) (ea_d (ev_int 1) (ea_d (ev_int 99) ea_nil))) trivial))).of ?_) fun G3 e3 d3 => s_nx (s_nx (s_iv (e2.trans e3) d3 rfl ⟨rfl, _, rfl⟩))
    rw [notIn_names hin.1]
    show (false || !(decide ((1 : Int) ≤ c) && decide (c ≤ 99))) = false
    rw [decide_eq_true hin.2.1, decide_eq_true hin.2.2]
    rfl
  · rintro σ' G2 F' e2 d2 ⟨rfl, o2, rfl⟩
    exact s_ret d2 ev_non fun v G3 e3 d3 p => k v G3 ((e1.trans e2).trans e3) d3 p
theorem fd_check_loads (F : Df K mg "check_loads" st_check_loads) (T : Txf mg) (D1 : FD P w K mg base 3 "wrong_load" ps_wrong_load (sp_wrong_load K C)) : FD P w K mg base 4 "check_loads" ps_check_loads (sp_check_loads K C) := by
  refine fd_S F sc_check_loads rfl (fun _ _ _ _ _ _ us hl => match us, hl with | [_, _], _ => rfl) fun f cdv A outer s H E hr => ⟨_, dv_check_loads T D1 hr, ?_⟩
  rintro vs Q ⟨pl, loads⟩ G F dj al ho k
  obtain ⟨v0, v1, rfl, p0, p1⟩ := al2 al
  refine s_set dj (c_wrong_load (pl, loads) (ea_cons (ev_var rfl mo_Pl p0) mo_Pl (ea_cons (ev_var rfl mo_Dk p1) mo_Dk ea_nil)) ho) fun v2 G1 e1 d1 p2 => ?_
  exact s_no d1 ((et_B (ev_notN (ev_v rfl p2))).of rfl) fun G2 e2 d2 => s_nx (s_nx (k _ G2 (e1.trans e2) d2 dNon))
theorem fd_check_timed (F : Df K mg "check_timed" st_check_timed) (T : Txf mg) (PP : PlP P w K mg base C) (D1 : FD P w K mg base 5 "check_wiring" ps_check_wiring (sp_check_wiring K C)) (D2 : FD P w K mg base 4 "check_loads" ps_check_loads (sp_check_loads K C)) (D3 : FD P w K mg base 2 "is_timer" ps_is_timer (sp_is_timer K C)) : FD P w K mg base 6 "check_timed" ps_check_timed (sp_check_timed K C) := by
  refine fd_S F sc_check_timed rfl (fun _ _ _ _ _ _ us hl => match us, hl with | [_, _, _, _], _ => rfl) fun f cdv A outer s H E hr => ⟨_, dv_check_timed T D3 D2 D1 PP hr, ?_⟩
  rintro vs Q ⟨pl, wir, loads, ts⟩ G F dj al ⟨hp, hw, hfo, hl, ht⟩ k
  obtain ⟨v0, v1, v2, v3, rfl, p0, p1, p2, p3⟩ := al4 al
  have ht : TsOk pl ts := ht
  obtain ⟨t1, t2, t3⟩ := ht
  have p0 : Pl K C pl v0 G := p0
  have p1 : D K (eOpts wir) v1 G := p1
  have p2 : Dk K (eLoads loads) v2 G := p2
  have p3 : Dk K (eTimers ts) v3 G := p3
  have hlen : (eTimers ts).length < 64 := by unfold eTimers; rw [List.length_map]; omega
  refine s_drop dj (c_check_wiring (pl, wir) (ea_cons (ev_var rfl mo_Pl p0) mo_Pl (ea_d (ev_v rfl p1) ea_nil)) ⟨hp, hw, hfo⟩) fun _ G1 e1 d1 _ => ?_
  refine s_drop d1 (c_check_loads (pl, loads) (ea_cons (ev_var rfl mo_Pl (mo_Pl _ _ _ e1 p0)) mo_Pl (ea_cons (ev_var rfl mo_Dk (mo_Dk _ _ _ e1 p2)) mo_Dk ea_nil)) ⟨hp, hl⟩) fun _ G2 e2 d2 _ => ?_
  have E2 := e1.trans e2
  -- the names in some order
  refine s_forE d2 (ev_sortDk (ev_var rfl mo_Dk (mo_Dk _ _ _ E2 p3)) hlen) fun v G3 e3 d3 ⟨ys, hperm, _, hx⟩ => ?_
  rw [eTimers_keys] at hperm
  have E3 := E2.trans e3
  refine s_for d3 (ei_list (as := ys) (enc := PyData.str) (ev_cd hx.d)) fun G4 e4 d4 => ⟨fun _ σ _ F' => F' = F ∧ ∃ o4, σ = [some v0, some v1, some v2, some v3, o4], ⟨rfl, none, rfl⟩, ?_, fun _ _ _ _ _ _ h => h, ?_⟩
  · rintro i nm x σ' G5 F' hi e5 d5 r ⟨rfl, o4, rfl⟩
    have e := (E3.trans e4).trans e5
    have hm : nm ∈ ts.map Prod.fst := hperm.mem_iff.mp (List.mem_of_getElem? hi)
    obtain ⟨c, hc⟩ := getK_some hm
    have hin := t3 _ (getK_mem hc)
    refine (eg_name (G := G5)) G5 (Ex.refl _) _ d5 _ fun σ2 hs2 => ?_
    subst hs2
    have g1 := mo_Dk _ _ _ e p3
    refine s_no d5 ((et_or (et_test (ev_inT (d := .str nm) (ds := pl.names.map PyData.str) (neg := true) (ev_v rfl r) (ev_prop (sp := fun pl => D K (eNames pl.names)) (ev_var rfl mo_Pl (mo_Pl _ _ _ e p0)) rfl) rfl flat_names)) fun _ => et_not (et_B (c_is_timer c (ea_d (ev_dget (s := nm) (d := eTm c) (ev_var rfl mo_Dk g1) (ev_v rfl r) (by rw [getK_timers, hc]; rfl)) ea_nil) hin.2))).of ?_) fun G6 e6 d6 => s_nx (s_nx (s_iv (e5.trans e6) d6 rfl ⟨rfl, _, rfl⟩))
    rw [notIn_names hin.1]
    rfl
  · rintro σ' G5 F' e5 d5 ⟨rfl, o4, rfl⟩
    exact s_nx (k _ G5 ((E3.trans e4).trans e5) d5 dNon)

theorem eqvOpt (a : Option Nat) : PyData.eqv (eOpt a) (eOpt a) = true := by
  cases a with
  | none => rfl
  | some n => show ((n : Int) == (n : Int)) = true; simp
theorem eqvStr {a b : Str} : PyData.eqv (.str a) (.str b) = decide (a = b) := by
  show (a == b) = _
  exact Bool.beq_eq_decide_eq a b
theorem shapedR {x : Str} (h : x = "free" ∨ x = "rooms" ∨ x = "lamp" ∨ x = "plug") : SeqAt.shaped (.str x) = true := by
  rcases h with rfl | rfl | rfl | rfl <;> decide +kernel
theorem shapedOpt (a : Option Nat) : SeqAt.shaped (eOpt a) = true := by cases a <;> rfl
theorem fd_does_follow (F : Df K mg "does_follow" st_does_follow) (T : Txf mg) (PP : PlP P w K mg base C) : FD P w K mg base 3 "does_follow" ps_does_follow (sp_does_follow K C) := by
  refine fd_S F sc_does_follow rfl (fun _ _ _ _ _ _ us hl => match us, hl with | [_, _], _ => rfl) fun f cdv A outer s H E hr => ⟨_, dv_does_follow T PP hr, ?_⟩
  rintro vs Q ⟨pl, wir⟩ G F dj al ⟨hp, hw, hf⟩ k
  obtain ⟨v0, v1, rfl, p0, p1⟩ := al2 al
  have hp : PlOk pl := hp
  have hw : WirOk pl wir := hw
  have hf : Follows pl wir := hf
  have p0 : Pl K C pl v0 G := p0
  have p1 : D K (.tuple (wir.map eOpt)) v1 G := p1
  have hn := hp.p2
  refine s_if dj (et_test (ev_eqD (ev_prop (sp := fun pl => D K (.str pl.rule)) (ev_var rfl mo_Pl p0) rfl) (ev_str "free") (shapedR (hp.ru.elim .inl fun q => .inr (.inl q))) (shapedR (.inl rfl)))) (fun _ G1 e1 d1 => s_ret d1 (ev_bl true) fun v G2 e2 d2 p => k v G2 (e1.trans e2) d2 p) fun hb G1 e1 d1 => s_nx ?_
  have hb : PyData.eqv (.str pl.rule) (.str "free") = false := hb
  rw [eqvStr] at hb
  have hb := of_decide_eq_false hb
  have hfo := hf.resolve_left hb
  refine s_dnew d1 fun p n1 n2 d2 => ?_
  have p0' := mo_Pl _ _ _ e1 p0
  refine s_for d2 (ei_zipT (ea := ePoint) (eb := eOpt) (as := pl.points) (bs := wir) (ev_prop (sp := fun pl => D K (ePoints pl.points)) (ev_var rfl mo_Pl p0') rfl) (ev_v rfl (p1.ex e1))) fun G2 e2 d2 => ⟨fun i σ G' F' => ∃ vs : List (Key × V), F' = upd F p (.dK vs) ∧ vs.length ≤ i ∧
      (∀ rm v, valV vs (Sum.inl rm : Key) = some v → ∃ (j : Nat) (pt : Str × Str × Int) (ob : Option Nat), pl.points[j]? = some pt ∧ wir[j]? = some ob ∧ pt.2.1 = "lamp" ∧ pt.2.2 = rm ∧ D K (eOpt ob) v G') ∧ ∃ o3 o4, σ = [some v0, some v1, some (.ref p), o3, o4],
      ⟨[], rfl, Nat.le_refl _, (fun rm v h => nomatch h), none, none, rfl⟩, ?_, ?_, ?_⟩
  · rintro i ⟨pt, ob⟩ x σ' G3 F' hi e3 d3 r ⟨vs, rfl, hl, hv, o3, o4, rfl⟩
    obtain ⟨hi1, hi2⟩ := zip_at hi
    have hil : i < 5 := by
      have := (List.getElem?_eq_some_iff.mp hi1).1
      omega
    refine (eg_pair r) G3 (Ex.refl _) _ d3 _ fun σ2 ⟨a, b, hs2, r1, r2⟩ => ?_
    subst hs2
    have r1 : D K (.tuple [.str pt.1, .str pt.2.1, .int pt.2.2]) a G3 := r1
    have r2 : D K (eOpt ob) b G3 := r2
    refine (et_test (ev_eqD (ev_ixT (i := 1) (ev_v rfl r1) (ev_int 1) rfl) (ev_str "lamp") (shapedR ((hp.pk pt (List.mem_of_getElem? hi1)).1.elim (fun q => .inr (.inr (.inl q))) fun q => .inr (.inr (.inr q)))) (shapedR (.inr (.inr (.inl rfl)))))).run d3 fun G4 e4 d4 => ?_
    rw [eqvStr]
    by_cases hk : pt.2.1 = "lamp"
    · rw [if_pos (decide_eq_true hk)]
      refine ⟨_, rfl, p, rfl, .inl ⟨vs, .inl (un_r d4 upd_same)⟩, (ev_ixT (i := 2) (ev_v rfl (r1.ex e4)) (ev_int 2) rfl).run d4 fun y G5 e5 d5 py => ⟨_, rfl, ?_⟩⟩
      obtain rfl := py.int
      have r2' := (r2.ex e4).ex e5
      refine ⟨vs, Sum.inl pt.2.2, un_r d5 upd_same, rfl, small1000 (by omega), fun v hvv => ?_, fun hvn => ?_⟩
      · obtain ⟨j, pt', ob', h1, h2, h3, h4, h5⟩ := hv _ _ hvv
        have eo : ob' = ob := hfo j i pt' pt ob' ob h1 hi1 h2 hi2 h3 hk h4
        subst eo
        refine ⟨_, rfl, eOpt ob', eOpt ob', ((h5.ex e4).ex e5).ex ex_un, r2'.ex ex_un, shapedOpt _, shapedOpt _, _, rfl, ?_⟩
        rw [eqvOpt]
        show tNext _ _ _
        refine s_nx (s_iv ((e3.trans e4).trans e5) d5 rfl ⟨vs, rfl, by omega, fun rm v h => ?_, _, _, rfl⟩)
        obtain ⟨j, pt, ob, h1, h2, h3, h4, h5⟩ := hv rm v h
        exact ⟨j, pt, ob, h1, h2, h3, h4, (h5.ex e4).ex e5⟩
      · have n5 : G5 p = none := d5.n upd_same
        rw [upd_r n5, upd_upd, putK_new _ hvn]
        have d6 : Dj G5 (upd F p (.dK (vs ++ [(Sum.inl pt.2.2, b)]))) := by
          have z := d5.newR (o := .dK (vs ++ [(Sum.inl pt.2.2, b)])) n5
          rw [upd_upd] at z
          exact z
        refine ⟨_, rfl, eOpt ob, eOpt ob, r2'.ex ex_un, r2'.ex ex_un, shapedOpt _, shapedOpt _, _, rfl, ?_⟩
        rw [eqvOpt]
        show tNext _ _ _
        refine s_nx (s_iv ((e3.trans e4).trans e5) d6 rfl ⟨_, rfl, by simp; omega, fun rm v h => ?_, _, _, rfl⟩)
        rw [valV_snoc _ _ _ _ hvn] at h
        by_cases hr : (Sum.inl rm : Key) = Sum.inl pt.2.2
        · rw [if_pos hr] at h
          cases h
          exact ⟨i, pt, ob, hi1, hi2, hk, (Sum.inl.inj hr).symm, r2'⟩
        · rw [if_neg hr] at h
          obtain ⟨j, pt, ob, h1, h2, h3, h4, h5⟩ := hv rm v h
          exact ⟨j, pt, ob, h1, h2, h3, h4, (h5.ex e4).ex e5⟩
    · rw [if_neg (by simp [hk])]
      show tNext _ _ _
      refine s_nx (s_iv (e3.trans e4) d4 rfl ⟨vs, rfl, by omega, fun rm v h => ?_, _, _, rfl⟩)
      obtain ⟨j, pt, ob, h1, h2, h3, h4, h5⟩ := hv rm v h
      exact ⟨j, pt, ob, h1, h2, h3, h4, h5.ex e4⟩
  · rintro i σ' G0 G' F' e ⟨vs, rfl, hl, hv, o3, o4, rfl⟩
    refine ⟨vs, rfl, hl, fun rm v h => ?_, o3, o4, rfl⟩
    obtain ⟨j, pt, ob, h1, h2, h3, h4, h5⟩ := hv rm v h
    exact ⟨j, pt, ob, h1, h2, h3, h4, h5.ex e⟩
  · rintro σ' G3 F' e3 d3 ⟨vs, rfl, hl, hv, o3, o4, rfl⟩
    have n3 : G3 p = none := d3.n upd_same
    rw [upd_lr n3]
    have d4 : Dj (upd G3 p (.dK vs)) F := (d3.off n2).newL n2
    exact s_ret d4 (ev_bl true) fun v G4 e4 d4 q => k v G4 ((e1.trans e2).trans ((e3.trans (Ex.new n3)).trans e4)) d4 q
theorem mod_eq {n m : Nat} : ((n : Int) % (m : Int)) = ((n % m : Nat) : Int) := (Int.natCast_emod n m).symm
theorem tm_ok {ts : Timers} (h : ∀ p ∈ ts, TmOk p.2) (n : Str) : TmOk (tmOf ts n) := by
  unfold tmOf
  cases e : getK ts n with
  | none => exact ⟨by decide, by decide, by decide, by decide, by decide⟩
  | some t => exact h _ (getK_mem e)
theorem ev_mod {σ : St} {G : Hp} {ta tb : TE} {i j : Int} (ha : Ev ta σ G (D K (.int i))) (hb : Ev tb σ G (D K (.int j))) (h : 0 < j) : Ev (tOp (rI (fun _ j => 0 < j) fun i j => .int (i % j)) ta tb) σ G (D K (.int (i % j))) := ev_I ha hb h fun _ => dInt _
theorem et_or' {σ : St} {G : Hp} {t u : L2.TT} {a b c : Bool} (h1 : EvT t σ G a) (h2 : a = false → EvT u σ G b) (h : (a || b) = c) : EvT (tOr t u) σ G c := (et_or h1 h2).of h
theorem ev_tupLx {σ : St} {G : Hp} {ta : TE} {ds : List PyData} (ha : Ev ta σ G (Lx K ds)) : Ev (tCB (rTupC K) (tCons ta tNil)) σ G (Tx K ds) := ev_cb1 ha mo_Lx fun x G1 F Q e d p q => by
  obtain ⟨a, xs, rfl, h1, h2⟩ := p
  refine ⟨a, xs, rfl, .inl ⟨SqL.of (un_l h1), fun l hn => ?_⟩⟩
  obtain ⟨n1, n2⟩ := un_no hn
  rw [upd_l]
  exact q _ _ (Ex.new n1) (d.newL n2) ⟨l, xs, rfl, upd_same, dpA_ex (Ex.new n1) _ _ h2⟩
theorem fd_names_on (F : Df K mg "names_on" st_names_on) (T : Txf mg) : FD P w K mg base 1 "names_on" ps_names_on (sp_names_on K C) := by
  refine fd_S F sc_names_on rfl (fun _ _ _ _ _ _ us hl => match us, hl with | [_, _, _], _ => rfl) fun f cdv A outer s H E hr => ⟨_, dv_names_on (C := C) T hr, ?_⟩
  rintro vs Q ⟨loads, ts, n⟩ G F dj al ⟨h1, h2, h3⟩ k
  obtain ⟨v0, v1, v2, rfl, p0, p1, p2⟩ := al3 al
  have p0 : Dk K (eLoads loads) v0 G := p0
  have p1 : Dk K (eTimers ts) v1 G := p1
  have p2 : D K (.int (n : Int)) v2 G := p2
  have h3 : ∀ p ∈ ts, TmOk p.2 := h3
  have h1 : Asc (loads.map Prod.fst) := h1
  have h2 : loads.length ≤ 5 := h2
  have hlen : (eLoads loads).length < 64 := by unfold eLoads; rw [List.length_map]; omega
  have z : Ev (tLc (iList K (tCB rSortDk (tCons (tVar 0) tNil))) (gName 3) (tOr (tB (tDNotIn (tVar 3) (tVar 1))) (tTest (tOp (rEqD K) (tOp (rI (fun _ j => 0 < j) fun i j => .int (i % j)) (tCB rInt1 (tCons (tVar 2) tNil)) (tOp (rIx K) (tDGet (tVar 1) (tVar 3)) (tC (.int 2)))) (tC (.int 0))))) (tVar 3) [3]) (start nm_names_on [v0, v1, v2]) G (Lx K (((loads.map Prod.fst).filter (dayOn ts n)).map PyData.str)) := by
    refine e_lcN (xs := loads.map Prod.fst) (enc := PyData.str) (dayOn ts n) PyData.str (ei_list ((ev_sortA (ev_var rfl mo_Dk p0) hlen (by rw [eLoads_keys]; exact h1)).imp fun v G' _ q => by rw [eLoads_keys] at q; exact q.d)) (by rw [List.length_map]; omega) (fun _ => rfl) (fun nm x G' hm e r => ?_) fun nm x G' hm e r hf => ev_v rfl r
    have g1 := mo_Dk _ _ _ e p1
    refine et_or' (b := decide (n % (tmOf ts nm).v = 0)) (et_B (ev_dnot (s := nm) (ev_v rfl r) (ev_var rfl mo_Dk g1))) (fun hq => ?_) ?_
    · rw [getK_timers] at hq
      cases hc : getK ts nm with
      | none => rw [hc] at hq; cases hq
      | some c =>
        have hc' := h3 _ (getK_mem hc)
        refine (et_test (ev_eqD (ev_mod (ev_intc (ev_v rfl (p2.ex e))) (ev_ixT (i := 2) (ds := [.int (c.b : Int), .int (c.e : Int), .int (c.v : Int)]) (ev_dget (s := nm) (d := eTm c) (ev_var rfl mo_Dk g1) (ev_v rfl r) (by rw [getK_timers, hc]; rfl)) (ev_int 2) rfl) ?_) (ev_int 0) rfl rfl)).of ?_
        · have := hc'.2.2.2.1
          show 0 < ((c.v : Nat) : Int)
          have : 1 ≤ c.v := this
          omega
        · rw [eqvI]
          have : (tmOf ts nm).v = c.v := by unfold tmOf; rw [hc]; rfl
          rw [this]
          apply decide_eq_decide.mpr
          show (n : Int) % (c.v : Int) = 0 ↔ _
          rw [mod_eq]
          omega
    · rw [getK_timers]
      cases hc : getK ts nm with
      | none =>
        unfold dayOn
        have e1 : tmOf ts nm = ⟨0, 24, 1⟩ := by unfold tmOf; rw [hc]; rfl
        rw [e1]
        simp [Nat.mod_one]
      | some c => rfl
  exact s_ret dj (ev_tupLx z) k

end
end Bf
set_option Elab.async false
set_option linter.all false
set_option maxRecDepth 100000
set_option maxHeartbeats 4000000
namespace Bf
open PySem PyProof.Rows L2
section
variable {P : Program} {w : World} {K : PySem.W.Frag} {mg : Str → Option Value} {base : Heap} {C : Addr}
/-! ### data that are compared: shallow, no dicts -/
def Fine (n : Nat) (d : PyData) : Prop := d.canLay0 = true ∧ d.depth ≤ n
theorem fine_all {n : Nat} : ∀ {ds : List PyData}, (∀ d ∈ ds, Fine n d) → PyData.canLayAll0 ds = true ∧ PyData.depthAll ds ≤ n
  | [], _ => by simp [PyData.canLayAll0, PyData.depthAll]
  | d :: ds, h => by
    obtain ⟨h1, h2⟩ := h d List.mem_cons_self
    obtain ⟨h3, h4⟩ := fine_all (ds := ds) fun x hx => h x (List.mem_cons_of_mem _ hx)
    simp only [PyData.canLayAll0, PyData.depthAll, h1, h3, Bool.and_self, true_and]
    omega
theorem fine_list {n : Nat} {ds : List PyData} (h : ∀ d ∈ ds, Fine n d) : Fine (n + 1) (.list ds) := by
  obtain ⟨h1, h2⟩ := fine_all h
  refine ⟨by simpa [PyData.canLay0] using h1, ?_⟩
  simp only [PyData.depth]
  omega
theorem fine_tup {n : Nat} {ds : List PyData} (h : ∀ d ∈ ds, Fine n d) : Fine (n + 1) (.tuple ds) := by
  obtain ⟨h1, h2⟩ := fine_all h
  refine ⟨by simpa [PyData.canLay0] using h1, ?_⟩
  simp only [PyData.depth]
  omega
theorem fine_int {n : Nat} (i : Int) : Fine n (.int i) := ⟨rfl, by simp [PyData.depth]⟩
theorem fine_non {n : Nat} : Fine n .none := ⟨rfl, by simp [PyData.depth]⟩
theorem fine_bl {n : Nat} (b : Bool) : Fine n (.bool b) := ⟨rfl, by simp [PyData.depth]⟩
theorem Fine.shaped {n : Nat} {d : PyData} (h : Fine n d) (hn : n ≤ 64) : SeqAt.shaped d = true := by
  unfold SeqAt.shaped
  rw [h.1, decide_eq_true (Nat.le_trans h.2 hn)]
  rfl
theorem fine_ints {n : Nat} {l : List Int} : ∀ d ∈ l.map PyData.int, Fine n d := fun d hd => by
  obtain ⟨i, _, rfl⟩ := List.mem_map.mp hd
  exact fine_int i
theorem fine_nats {n : Nat} {l : List Nat} : ∀ d ∈ eNats l, Fine n d := fun d hd => by
  obtain ⟨i, _, rfl⟩ := List.mem_map.mp hd
  exact fine_int _
theorem fine_pair {n : Nat} (i j : Int) : Fine (n + 1) (.tuple [.int i, .int j]) := fine_tup fun d hd => by
  rcases List.mem_cons.mp hd with rfl | hd
  · exact fine_int _
  · rcases List.mem_cons.mp hd with rfl | hd
    · exact fine_int _
    · cases hd
theorem fine_pairs {n : Nat} {l : List (Nat × Nat)} : ∀ d ∈ ePairs l, Fine (n + 1) d := fun d hd => by
  obtain ⟨p, _, rfl⟩ := List.mem_map.mp hd
  exact fine_pair _ _
theorem eqv_nil {ds : List PyData} : PyData.eqv (.list ds) (.list []) = decide (ds = []) := by
  cases ds with
  | nil => simp [PyData.eqv, PyData.eqvAll]
  | cons d r => simp [PyData.eqv, PyData.eqvAll]
theorem eqv_nilT {ds : List PyData} : PyData.eqv (.tuple ds) (.tuple []) = decide (ds = []) := by
  cases ds with
  | nil => simp [PyData.eqv, PyData.eqvAll]
  | cons d r => simp [PyData.eqv, PyData.eqvAll]
/-! ### who goes first -/
def oPair (rates : List Int) (i : Nat) : PyData := .tuple [.int (rates.getD i 0), .int (0 - (i : Int))]
theorem lt_oPair {rates : List Int} {j i : Nat} : PySem.W.dataLt (oPair rates j) (oPair rates i) = ahead rates j i := by
  unfold oPair ahead
  rw [PySem.W.dataLt_ii]
  by_cases h1 : rates.getD j 0 < rates.getD i 0
  · simp [h1]
  · by_cases h2 : rates.getD j 0 = rates.getD i 0
    · simp only [h2]
      simp
    · simp [h1, h2]
theorem minD_pick {rates : List Int} : ∀ (is : List Nat) (i : Nat), PySem.W.minD (oPair rates i) (is.map (oPair rates)) = oPair rates (pickN rates i is)
  | [], i => rfl
  | j :: is, i => by
    show List.foldl _ (if PySem.W.dataLt (oPair rates j) (oPair rates i) then oPair rates j else oPair rates i) (is.map (oPair rates)) = _
    rw [lt_oPair]
    have := minD_pick (rates := rates) is (if ahead rates j i then j else i)
    rw [pickN, ← this]
    unfold PySem.W.minD
    congr 1
    by_cases h : ahead rates j i = true
    · rw [if_pos h, if_pos h]
    · rw [if_neg h, if_neg h]
theorem pickN_mem {rates : List Int} : ∀ (is : List Nat) (i : Nat), pickN rates i is ∈ i :: is
  | [], i => List.mem_cons_self
  | j :: is, i => by
    rw [pickN]
    by_cases h : ahead rates j i = true
    · rw [if_pos h]
      exact List.mem_cons_of_mem _ (pickN_mem is j)
    · rw [if_neg h]
      rcases List.mem_cons.mp (pickN_mem (rates := rates) is i) with q | q
      · rw [q]; exact List.mem_cons_self
      · exact List.mem_cons_of_mem _ (List.mem_cons_of_mem _ q)
theorem alike_oPair {rates : List Int} {i j : Nat} : PySem.W.alike (oPair rates i) (oPair rates j) = true := by
  simp [oPair, PySem.W.alike, PySem.W.alikeAll]
theorem alikeAll_o {rates : List Int} {l : List Nat} : PySem.W.AlikeAll (l.map (oPair rates)) := by
  refine ⟨fun x hx y hy => ?_, fun x hx => ?_⟩
  · obtain ⟨i, _, rfl⟩ := List.mem_map.mp hx
    obtain ⟨j, _, rfl⟩ := List.mem_map.mp hy
    exact alike_oPair
  · obtain ⟨i, _, rfl⟩ := List.mem_map.mp hx
    intro z
    cases z
theorem fine_o {rates : List Int} {n : Nat} {l : List Nat} : ∀ d ∈ l.map (oPair rates), Fine (n + 1) d := fun d hd => by
  obtain ⟨i, _, rfl⟩ := List.mem_map.mp hd
  exact fine_pair _ _
/-! ### what trips was on -/
theorem sum_nonneg {l : List Int} (h : ∀ x ∈ l, 0 ≤ x) : 0 ≤ l.sum := by
  induction l with
  | nil => simp
  | cons x r ih =>
    rw [List.sum_cons]
    have := h x List.mem_cons_self
    have := ih fun y hy => h y (List.mem_cons_of_mem _ hy)
    omega
theorem over_on {pl : PlanD} {wir : List (Option Nat)} {st : List Bool} {loads : Loads} (hp : PlOk pl) {i : Nat} (h : i ∈ over pl wir st loads) : i < pl.rates.length ∧ st.getD i false = true := by
  obtain ⟨h1, h2⟩ := List.mem_filter.mp h
  have hi := List.mem_range.mp h1
  refine ⟨hi, ?_⟩
  have h2 := of_decide_eq_true h2
  have hr : 1 ≤ pl.rates.getD i 0 := by
    rw [List.getD_eq_getElem?_getD, List.getElem?_eq_getElem hi]
    exact (hp.rt _ (List.getElem_mem hi)).1
  -- some point draws through i
  have hne : (pl.names.zip wir).filter (addsTo pl st i) ≠ [] := fun e => by
    have : cur pl wir st loads i = 0 := by unfold cur curOf; rw [e]; rfl
    omega
  obtain ⟨q, hq⟩ := List.exists_mem_of_ne_nil _ hne
  have hq2 := (List.mem_filter.mp hq).2
  unfold addsTo at hq2
  rw [Bool.and_eq_true] at hq2
  obtain ⟨a, b⟩ := hq2
  cases hb : q.2 with
  | none => rw [hb] at a; cases a
  | some br =>
    rw [hb] at a b
    have b : (lineUp pl.above br).contains i = true := b
    have a : ((lineUp pl.above br).all fun i => st.getD i false) = true := a
    exact List.all_eq_true.mp a i (by simpa using b)
def cTrue (st : List Bool) : Nat := st.count true
theorem cTrue_set {st : List Bool} {i : Nat} (h : st.getD i false = true) : cTrue (st.set i false) + 1 = cTrue st := by
  induction st generalizing i with
  | nil => simp at h
  | cons b r ih =>
    cases i with
    | zero =>
      simp at h
      subst h
      simp [cTrue]
    | succ i =>
      have h' : r.getD i false = true := by simpa using h
      have := ih h'
      unfold cTrue at this ⊢
      rw [List.set_cons_succ, List.count_cons, List.count_cons]
      omega
theorem cTrue_le (st : List Bool) : cTrue st ≤ st.length := List.count_le_length
theorem cTrue_zero {st : List Bool} (h : cTrue st = 0) (i : Nat) : st.getD i false = false := by
  unfold cTrue at h
  rw [List.count_eq_zero] at h
  rw [List.getD_eq_getElem?_getD]
  cases e : st[i]? with
  | none => rfl
  | some b =>
    cases b with
    | false => rfl
    | true => exact absurd (List.mem_of_getElem? e) h
/-- more fuel changes nothing once there are no more breakers on -/
theorem tripF_fuel {pl : PlanD} {wir : List (Option Nat)} {loads : Loads} (hp : PlOk pl) : ∀ (n m : Nat) (st : List Bool), cTrue st ≤ n → cTrue st ≤ m → tripF pl wir loads n st = tripF pl wir loads m st := by
  have zero : ∀ (st : List Bool), cTrue st = 0 → over pl wir st loads = [] := fun st h => by
    cases e : over pl wir st loads with
    | nil => rfl
    | cons i is =>
      have := over_on (wir := wir) (st := st) (loads := loads) hp (i := i) (by rw [e]; exact List.mem_cons_self)
      rw [cTrue_zero h] at this
      cases this.2
  intro n
  induction n with
  | zero =>
    intro m st h1 h2
    have z := zero st (by omega)
    cases m with
    | zero => rfl
    | succ m => show (st, []) = (match over pl wir st loads with | [] => _ | i :: is => _); rw [z]
  | succ n ih =>
    intro m st h1 h2
    cases m with
    | zero =>
      have z := zero st (by omega)
      show (match over pl wir st loads with | [] => _ | i :: is => _) = (st, [])
      rw [z]
    | succ m =>
      show (match over pl wir st loads with | [] => _ | i :: is => _) = (match over pl wir st loads with | [] => _ | i :: is => _)
      cases e : over pl wir st loads with
      | nil => rfl
      | cons i is =>
        have hm := pickN_mem (rates := pl.rates) is i
        rw [← e] at hm
        have ho := over_on hp hm
        have hc := cTrue_set ho.2
        show ((tripF pl wir loads n (st.set (pickN pl.rates i is) false)).1, _ :: (tripF pl wir loads n (st.set (pickN pl.rates i is) false)).2) = _
        rw [ih m _ (by omega) (by omega)]
theorem trips_nil {pl : PlanD} {wir : List (Option Nat)} {loads : Loads} {st : List Bool} (h : over pl wir st loads = []) : trips pl wir st loads = (st, []) := by
  unfold trips
  cases pl.rates.length with
  | zero => rfl
  | succ n => show (match over pl wir st loads with | [] => _ | i :: is => _) = _; rw [h]
theorem trips_cons {pl : PlanD} {wir : List (Option Nat)} {loads : Loads} {st : List Bool} (hp : PlOk pl) (hl : st.length = pl.rates.length) {i : Nat} {is : List Nat} (h : over pl wir st loads = i :: is) :
    trips pl wir st loads = ((trips pl wir (st.set (pickN pl.rates i is) false) loads).1, pickN pl.rates i is :: (trips pl wir (st.set (pickN pl.rates i is) false) loads).2) := by
  have hm := pickN_mem (rates := pl.rates) is i
  rw [← h] at hm
  have ho := over_on hp hm
  have hc := cTrue_set ho.2
  have h1 := cTrue_le st
  unfold trips
  obtain ⟨n, hn⟩ : ∃ n, pl.rates.length = n + 1 := ⟨pl.rates.length - 1, by have := hp.n1; omega⟩
  rw [hn]
  show (match over pl wir st loads with | [] => _ | i :: is => _) = _
  rw [h]
  show ((tripF pl wir loads n (st.set (pickN pl.rates i is) false)).1, _ :: (tripF pl wir loads n (st.set (pickN pl.rates i is) false)).2) = _
  rw [tripF_fuel hp n (n + 1) _ (by omega) (by omega)]
theorem trips_len {pl : PlanD} {wir : List (Option Nat)} {loads : Loads} : ∀ (n : Nat) (st : List Bool), (tripF pl wir loads n st).1.length = st.length ∧ (tripF pl wir loads n st).2.length ≤ n
  | 0, st => ⟨rfl, Nat.le_refl _⟩
  | n + 1, st => by
    unfold tripF
    split
    · exact ⟨rfl, Nat.zero_le _⟩
    · rename_i i is _
      obtain ⟨h1, h2⟩ := trips_len n (st.set (pickN pl.rates i is) false)
      refine ⟨by rw [h1, List.length_set], ?_⟩
      show (tripF pl wir loads n (st.set (pickN pl.rates i is) false)).2.length + 1 ≤ n + 1
      omega

end
end Bf
set_option Elab.async false
set_option linter.all false
set_option maxRecDepth 100000
set_option maxHeartbeats 4000000
namespace Bf
open PySem PyProof.Rows L2
section
variable {P : Program} {w : World} {K : PySem.W.Frag} {mg : Str → Option Value} {base : Heap} {C : Addr}
theorem set_cut {st : List Bool} {i : Nat} (h : i < st.length) : (st.take i ++ [false]) ++ st.drop (i + 1) = st.set i false := by
  rw [List.set_eq_take_append_cons_drop, if_pos h]
  simp
theorem curs_get {pl : PlanD} {wir : List (Option Nat)} {st : List Bool} {loads : Loads} {i : Nat} (h : i < pl.rates.length) : ((curs pl wir st loads).map PyData.int)[i]? = some (.int (cur pl wir st loads i)) := by
  unfold curs
  rw [List.map_map, List.getElem?_map, List.getElem?_range h]
  rfl
theorem rates_get {rates : List Int} {i : Nat} (h : i < rates.length) : (rates.map PyData.int)[i]? = some (.int (rates.getD i 0)) := by
  rw [List.getElem?_map, List.getElem?_eq_getElem h, List.getD_eq_getElem?_getD, List.getElem?_eq_getElem h]
  rfl
theorem natsV {K : PySem.W.Frag} {G : Hp} (ns : List Nat) : DpAll K G (ns.map fun (n : Nat) => V.int (n : Int)) (eNats ns) := by
  have z := ints_dpA (K := K) (G := G) (ns.map fun (n : Nat) => (n : Int))
  rw [List.map_map, List.map_map] at z
  exact z
def TrInv (K : PySem.W.Frag) (v0 v1 v3 : V) (p : Addr) (F : Hp) (pl : PlanD) (wir : List (Option Nat)) (st : List Bool) (loads : Loads) (m : Nat) (σ : St) (G' F' : Hp) : Prop :=
  ∃ (st' : List Bool) (ns : List Nat) (is : List PyData) (x2 x5 : V) (o6 o7 o8 : Option V), F' = upd F p (.lst (ns.map fun (n : Nat) => V.int (n : Int))) ∧ σ = [some v0, some v1, some x2, some v3, some (.ref p), some x5, o6, o7, o8] ∧ D K (eBools st') x2 G' ∧ D K (.list is) x5 G' ∧
    st'.length = pl.rates.length ∧ trips pl wir st loads = ((trips pl wir st' loads).1, ns ++ (trips pl wir st' loads).2) ∧ ns.length + cTrue st' ≤ 5 ∧ (∀ d ∈ is, Fine 1 d) ∧ (is = [] → over pl wir st' loads = []) ∧ m = if is = [] then 0 else cTrue st' + 1
theorem TrInv.ex {K : PySem.W.Frag} {v0 v1 v3 : V} {p : Addr} {F : Hp} {pl : PlanD} {wir : List (Option Nat)} {st : List Bool} {loads : Loads} {m : Nat} {σ : St} {G G' F' : Hp} (e : Ex G G') (h : TrInv K v0 v1 v3 p F pl wir st loads m σ G F') : TrInv K v0 v1 v3 p F pl wir st loads m σ G' F' := by
  obtain ⟨st', ns, is, x2, x5, o6, o7, o8, h1, h2, h3, h4, h5⟩ := h
  exact ⟨st', ns, is, x2, x5, o6, o7, o8, h1, h2, h3.ex e, h4.ex e, h5⟩
theorem fd_trips_in (F : Df K mg "trips_in" st_trips_in) (T : Txf mg) (PP : PlP P w K mg base C) (D1 : FD P w K mg base 5 "currents_in" ps_currents_in (sp_currents_in K C)) : FD P w K mg base 6 "trips_in" ps_trips_in (sp_trips_in K C) := by
  refine fd_S F sc_trips_in rfl (fun _ _ _ _ _ _ us hl => match us, hl with | [_, _, _, _], _ => rfl) fun f cdv A outer s H E hr => ⟨_, dv_trips_in T D1 PP hr, ?_⟩
  rintro vs Q ⟨pl, wir, st, loads⟩ G F dj al ⟨⟨hp, hw, hl⟩, _⟩ k
  have hp : PlOk pl := hp
  have hw : WirOk pl wir := hw
  have hl : st.length = pl.rates.length := hl
  obtain ⟨v0, v1, v2, v3, rfl, p0, p1, p2, p3⟩ := al4 al
  have p0 : Pl K C pl v0 G := p0
  have p1 : D K (eOpts wir) v1 G := p1
  have p2 : D K (eBools st) v2 G := p2
  have p3 : Dk K (eLoads loads) v3 G := p3
  have hn := hp.n2
  refine s_new dj fun p n1 n2 d1 => ?_
  refine s_set d1 (Ev.l (ev_lst0 (K := K) (ds := [.int 0]) (ea_d (ev_int 0) ea_nil) (by simp))) fun v5 G1 e1 d1 q5 => ?_
  refine s_whileT d1 (TrInv K v0 v1 v3 p F pl wir st loads) (cTrue st + 1) ⟨st, [], [.int 0], v2, v5, none, none, none, rfl, rfl, p2.ex e1, q5, hl, rfl, by have := cTrue_le st; simp; omega, fun d hd => by rw [List.mem_singleton.mp hd]; exact fine_int 0, (fun z => nomatch z), rfl⟩ (fun _ _ _ _ => True) ?_
  rintro m σ G2 F' e2 d2 ⟨st', ns, is, x2, x5, o6, o7, o8, rfl, rfl, q2, q5', hl', htr, hfu, hfi, hnil, rfl⟩
  have E2 := e1.trans e2
  refine ⟨!decide (is = []), (et_test (ev_neD (ev_v rfl q5') (Ev.l (ev_lst0 (K := K) (ds := []) ea_nil (by simp))) ((fine_list hfi).shaped (by omega)) rfl)).of (by rw [eqv_nil]), fun hb G3 e3 d3 => ?_, fun hb G3 e3 d3 => ?_⟩
  · have hne : is ≠ [] := by simpa using hb
    refine ⟨fun σ2 H2 => ∃ m', m' < (if is = [] then 0 else cTrue st' + 1) ∧ Iv G1 (TrInv K v0 v1 v3 p F pl wir st loads m') σ2 H2, fun σ2 H2 q => q, ?_⟩
    rw [if_neg hne]
    have E3 := E2.trans e3
    refine s_set d3 (c_currents_in (pl, wir, st', loads) (ea_cons (ev_var rfl mo_Pl (mo_Pl _ _ _ E3 p0)) mo_Pl (ea_d (ev_v rfl (p1.ex E3)) (ea_d (ev_v rfl (q2.ex e3)) (ea_cons (ev_var rfl mo_Dk (mo_Dk _ _ _ E3 p3)) mo_Dk ea_nil)))) ⟨hp, hw, hl'⟩) fun v6 G4 e4 d4 q6 => ?_
    have q6 : D K (.tuple ((curs pl wir st' loads).map PyData.int)) v6 G4 := q6
    have E4 := E3.trans e4
    refine s_set d4 (Ev.l (e_lcN (enc := fun (i : Nat) => PyData.int (i : Int)) (fun i => decide (pl.rates.getD i 0 < cur pl wir st' loads i)) (oPair pl.rates) (ei_range1 (ev_lenO (ev_var rfl mo_Pl (mo_Pl _ _ _ E4 p0)) rfl (by omega)) (by omega)) (by rw [List.length_range]; omega) (fun _ => rfl) (fun i x G' hm e r => ?_) fun i x G' hm e r hf => ?_)) fun x5' G5 e5 d5 q7 => ?_
    · have hi := List.mem_range.mp hm
      exact et_test (ev_gt (ev_ixT (ev_v rfl (q6.ex e)) (ev_v rfl r) (curs_get hi)) (ev_ixT (ds := pl.rates.map PyData.int) (ev_prop (sp := fun pl => D K (eRates pl.rates)) (ev_var rfl mo_Pl (mo_Pl _ _ _ (E4.trans e) p0)) rfl) (ev_v rfl r) (rates_get hi)))
    · have hi := List.mem_range.mp hm
      exact ev_tup (ds := [.int (pl.rates.getD i 0), .int (0 - (i : Int))]) (ea_d (ev_ixT (ds := pl.rates.map PyData.int) (ev_prop (sp := fun pl => D K (eRates pl.rates)) (ev_var rfl mo_Pl (mo_Pl _ _ _ (E4.trans e) p0)) rfl) (ev_v rfl r) (rates_get hi)) (ea_d (ev_sub (ev_int 0) (ev_v rfl r)) ea_nil)) (by simp)
    · have q7 : D K (.list ((over pl wir st' loads).map (oPair pl.rates))) x5' G5 := q7
      have q2' := (q2.ex e3).ex (e4.trans e5)
      refine s_if d5 ((et_test (ev_neD (ev_v rfl q7) (Ev.l (ev_lst0 (K := K) (ds := []) ea_nil (by simp))) ((fine_list (n := 1) fine_o).shaped (by omega)) rfl)).of (by rw [eqv_nil])) (fun hb2 G6 e6 d6 => ?_) fun hb2 G6 e6 d6 => ?_
      · -- one trips
        cases ho : over pl wir st' loads with
        | nil => rw [ho] at hb2; cases hb2
        | cons i is' =>
          rw [ho] at q7
          have hm := pickN_mem (rates := pl.rates) is' i
          rw [← ho] at hm
          have hon := over_on hp hm
          have hc := cTrue_set hon.2
          have hlt : pickN pl.rates i is' < st'.length := by rw [hl']; exact hon.1
          have q7 : D K (.list (oPair pl.rates i :: is'.map (oPair pl.rates))) x5' G5 := q7
          have hmin : Ev (tCB (rMinP K) (tCons (tVar 5) tNil)) [some v0, some v1, some x2, some v3, some (.ref p), some x5', some v6, o7, o8] G6 (D K (.tuple [.int (pl.rates.getD (pickN pl.rates i is') 0), .int (0 - (pickN pl.rates i is' : Int))])) := by
            have z := ev_minP (σ := [some v0, some v1, some x2, some v3, some (.ref p), some x5', some v6, o7, o8]) (G := G6) (ta := tVar 5) (ev_v rfl (q7.ex e6)) (by rw [← List.map_cons]; exact alikeAll_o) (by rw [← List.map_cons]; exact Nat.le_trans (fine_all (n := 1) fine_o).2 (by omega))
            rw [minD_pick] at z
            exact z
          refine s_set d6 ((ev_sub (ev_int 0) (ev_ixT (i := 1) hmin (ev_int 1) rfl)).of (d' := .int ((pickN pl.rates i is' : Nat) : Int)) (by congr 1; omega)) fun v8 G7 e7 d7 q8 => ?_
          refine s_app d7 upd_same rfl (by rw [List.length_map]; omega) (ev_v rfl q8) fun v G8 e8 d8 qv => ?_
          obtain rfl := qv.int
          have q2'' := ((q2'.ex e6).ex e7).ex e8
          have q2'' : D K (.tuple (st'.map PyData.bool)) x2 G8 := q2''
          have q8' := q8.ex e8
          refine s_set d8 ((ev_plusT (ev_plusT (ev_cutT (ev_v rfl q2'') eo_none (eo_some (K := K) (ev_v rfl q8'))) (ev_tup (ds := [.bool false]) (ea_d (ev_bl false) ea_nil) (by simp)) ?_) (ev_cutT (ev_v rfl q2'') (eo_some (K := K) (ev_plusI (ev_v rfl q8') (ev_int 1))) eo_none) ?_).of (d' := eBools (st'.set (pickN pl.rates i is') false)) ?_) fun x2' G9 e9 d9 q9 => ?_
          · rw [cut_to, List.length_take, List.length_map]
            simp
            omega
          · rw [cut_to, show ((pickN pl.rates i is' : Nat) : Int) + 1 = ((pickN pl.rates i is' + 1 : Nat) : Int) by omega, cut_from]
            simp
            omega
          · rw [cut_to, show ((pickN pl.rates i is' : Nat) : Int) + 1 = ((pickN pl.rates i is' + 1 : Nat) : Int) by omega, cut_from]
            unfold eBools
            rw [← set_cut hlt]
            simp
          · rw [upd_upd] at d9 ⊢
            refine s_nx (s_nx ?_)
            refine ⟨cTrue (st'.set (pickN pl.rates i is') false) + 1, by omega, ?_⟩
            refine Iv.mk (((((((e2.trans e3).trans e4).trans e5).trans e6).trans e7).trans e8).trans e9) d9 ⟨st'.set (pickN pl.rates i is') false, ns ++ [pickN pl.rates i is'], (oPair pl.rates i :: is'.map (oPair pl.rates)), x2', x5', some v6, o7, some v8, by rw [List.map_append]; rfl, rfl, q9, (((q7.ex e6).ex e7).ex e8).ex e9, by rw [List.length_set]; exact hl', ?_, ?_, ?_, (fun z => nomatch z), ?_⟩
            · rw [htr, trips_cons hp hl' ho]
              simp
            · simp
              omega
            · rw [← List.map_cons]
              exact fine_o
            · rw [if_neg (List.cons_ne_nil _ _)]
      · -- none trips
        have ho : over pl wir st' loads = [] := by simpa using hb2
        rw [ho] at q7
        refine s_nx (s_nx ?_)
        refine ⟨0, by omega, ?_⟩
        exact Iv.mk ((((e2.trans e3).trans e4).trans e5).trans e6) d6 ⟨st', ns, [], x2, x5', some v6, o7, o8, rfl, rfl, q2'.ex e6, q7.ex e6, hl', htr, hfu, (fun d hd => nomatch hd), fun _ => ho, rfl⟩
  · have hne : is = [] := by simpa using hb
    have ho := hnil hne
    rw [trips_nil ho] at htr
    have n3 : G3 p = none := d3.n upd_same
    rw [upd_lr n3]
    have d4 : Dj (upd G3 p (.lst (ns.map fun (n : Nat) => V.int (n : Int)))) F := (d3.off n2).newL n2
    refine s_ret d4 (ev_tup (ds := [eBools st', .tuple (eNats ns)]) (ea_d (ev_v rfl ((q2.ex e3).ex (Ex.new n3))) (ea_d (ev_tupL (ev_v rfl (dLst upd_same (natsV ns)))) ea_nil)) (by simp)) fun v G5 e5 d5 q => k v G5 ((E2.trans e3).trans ((Ex.new n3).trans e5)) d5 ?_
    show D K (.tuple [eBools (trips pl wir st loads).1, .tuple (eNats (trips pl wir st loads).2)]) v G5
    rw [htr]
    simpa using q

end
end Bf
set_option Elab.async false
set_option linter.all false
set_option maxRecDepth 100000
set_option maxHeartbeats 4000000
namespace Bf
open PySem PyProof.Rows L2
section
variable {P : Program} {w : World} {K : PySem.W.Frag} {mg : Str → Option Value} {base : Heap} {C : Addr}
theorem eqv_natsNil {l : List Nat} : PyData.eqv (.tuple (eNats l)) (.tuple []) = l.isEmpty := by
  rw [eqv_nilT]
  cases l with
  | nil => rfl
  | cons a r => rfl
theorem fd_does_run (F : Df K mg "does_run" st_does_run) (T : Txf mg) (D1 : FD P w K mg base 3 "all_on" ps_all_on (sp_all_on K C)) (D2 : FD P w K mg base 6 "trips_in" ps_trips_in (sp_trips_in K C)) : FD P w K mg base 7 "does_run" ps_does_run (sp_does_run K C) := by
  refine fd_S F sc_does_run rfl (fun _ _ _ _ _ _ us hl => match us, hl with | [_, _, _], _ => rfl) fun f cdv A outer s H E hr => ⟨_, dv_does_run T D1 D2 hr, ?_⟩
  rintro vs Q ⟨pl, wir, loads⟩ G F dj al ⟨hp, hw, hl⟩ k
  obtain ⟨v0, v1, v2, rfl, p0, p1, p2⟩ := al3 al
  have hp : PlOk pl := hp
  refine s_ret dj ((ev_eqD (ev_ixT (i := 1) (ds := [eBools (trips pl wir (allOn pl) loads).1, .tuple (eNats (trips pl wir (allOn pl) loads).2)]) (c_trips_in (pl, wir, allOn pl, loads) (ea_cons (ev_var rfl mo_Pl p0) mo_Pl (ea_d (ev_v rfl p1) (ea_d (c_all_on pl (ea_cons (ev_var rfl mo_Pl p0) mo_Pl ea_nil) hp) (ea_cons (ev_var rfl mo_Dk p2) mo_Dk ea_nil)))) ⟨⟨hp, hw, by show (allOn pl).length = _; unfold allOn; rw [List.length_replicate]⟩, hl⟩) (ev_int 1) rfl) (ev_tup (ds := []) ea_nil (by simp)) ((fine_tup (n := 0) fine_nats).shaped (by omega)) rfl).of (by rw [eqv_natsNil])) k
/-! ### what is drawn in an hour -/
theorem loadOf_ge {pl : PlanD} {loads : Loads} (h : LdOk pl loads) (n : Str) : 0 ≤ loadOf loads n := by
  unfold loadOf
  cases e : getK loads n with
  | none => exact Int.le_refl _
  | some c =>
    have := (h.2.2 _ (getK_mem e)).2.1
    show 0 ≤ c
    have : 1 ≤ c := this
    omega
theorem loadsAt_ge {pl : PlanD} {loads : Loads} (h : LdOk pl loads) (ts : Timers) (names : List Str) (hour : Nat) : ∀ p ∈ loadsAt loads ts names hour, 0 ≤ p.2 := fun p hp => by
  obtain ⟨n, _, rfl⟩ := List.mem_map.mp hp
  exact loadOf_ge h n
theorem loadsAt_snoc {loads : Loads} {ts : Timers} {l : List Str} {n : Str} {hour : Nat} : loadsAt loads ts (l ++ [n]) hour = loadsAt loads ts l hour ++ if hourOn ts hour n then [(n, loadOf loads n)] else [] := by
  unfold loadsAt
  rw [List.filter_append, List.map_append]
  congr 1
  by_cases h : hourOn ts hour n = true
  · rw [if_pos h, List.filter_cons_of_pos h]; rfl
  · rw [if_neg h, List.filter_cons_of_neg h]; rfl
theorem loadsAt_keys {loads : Loads} {ts : Timers} {l : List Str} {hour : Nat} : (loadsAt loads ts l hour).map Prod.fst = l.filter (hourOn ts hour) := by
  unfold loadsAt
  rw [List.map_map]
  exact List.map_id' _
theorem paired_app {α β : Type} {R : α → β → Prop} : ∀ {as : List α} {bs : List β} {as' : List α} {bs' : List β}, Paired R as bs → Paired R as' bs' → Paired R (as ++ as') (bs ++ bs')
  | _, _, _, _, .nil, h => h
  | _, _, _, _, .cons r t, h => .cons r (paired_app t h)
theorem nodup_at {α : Type} {l : List α} (h : l.Nodup) {i : Nat} {x : α} (hi : l[i]? = some x) : x ∉ l.take i := by
  intro hm
  obtain ⟨j, hj⟩ := List.getElem?_of_mem hm
  have hlt : j < i := by
    have := (List.getElem?_eq_some_iff.mp hj).1
    rw [List.length_take] at this
    omega
  rw [List.getElem?_take_of_lt hlt] at hj
  have := (List.getElem?_inj (List.getElem?_eq_some_iff.mp hj).1 h).mp (hj.trans hi.symm)
  omega
theorem fd_loads_at (F : Df K mg "loads_at" st_loads_at) (T : Txf mg) : FD P w K mg base 1 "loads_at" ps_loads_at (sp_loads_at K C) := by
  refine fd_S F sc_loads_at rfl (fun _ _ _ _ _ _ us hl => match us, hl with | [_, _, _, _], _ => rfl) fun f cdv A outer s H E hr => ⟨_, dv_loads_at (C := C) T hr, ?_⟩
  rintro vs Q ⟨loads, ts, names, hour⟩ G F dj al ⟨h1, h2, h3⟩ k
  obtain ⟨v0, v1, v2, v3, rfl, p0, p1, p2, p3⟩ := al4 al
  have p0 : Dk K (eLoads loads) v0 G := p0
  have p1 : Dk K (eTimers ts) v1 G := p1
  have p2 : D K (.tuple (names.map PyData.str)) v2 G := p2
  have p3 : D K (.int (hour : Int)) v3 G := p3
  have h1 : names.Nodup := h1
  have h2 : names.length ≤ 5 := h2
  have h3 : ∀ n ∈ names, n ∈ loads.map Prod.fst := h3
  refine s_dnew dj fun p n1 n2 d1 => ?_
  refine s_for d1 (ei_tup (as := names) (enc := PyData.str) (ev_v rfl p2)) fun G1 e1 d1 => ⟨fun i σ G' F' => ∃ vs : List (Key × V), F' = upd F p (.dK vs) ∧ KDs K G' vs (eLoads (loadsAt loads ts (names.take i) hour)) ∧ ∃ o5 o6 o7 o8, σ = [some v0, some v1, some v2, some v3, some (.ref p), o5, o6, o7, o8],
    ⟨[], rfl, .nil, none, none, none, none, rfl⟩, ?_, ?_, ?_⟩
  · rintro i nm x σ' G2 F' hi e2 d2 r ⟨vs, rfl, hk, o5, o6, o7, o8, rfl⟩
    have e := e1.trans e2
    have hm : nm ∈ names := List.mem_of_getElem? hi
    have hil : i < 5 := by
      have := (List.getElem?_eq_some_iff.mp hi).1
      omega
    refine (eg_name (G := G2)) G2 (Ex.refl _) _ d2 _ fun σ2 hs2 => ?_
    subst hs2
    refine s_tgt (P := D K (eTm (tmOf ts nm))) d2 ?_ fun v G3 e3 d3 pv => ?_
    · refine (ev_dget2 (s := nm) (d := eTm ⟨0, 24, 1⟩) (ev_var rfl mo_Dk (mo_Dk _ _ _ e p1)) (ev_v rfl r) (ev_tup (ds := [.int 0, .int 24, .int 1]) (ea_d (ev_int 0) (ea_d (ev_int 24) (ea_d (ev_int 1) ea_nil))) (by simp))).of ?_
      rw [getK_timers]
      unfold tmOf
      cases getK ts nm <;> rfl
    · have pv : D K (.tuple [.int ((tmOf ts nm).b : Int), .int ((tmOf ts nm).e : Int), .int ((tmOf ts nm).v : Int)]) v G3 := pv
      refine (eg_triple pv) G3 (Ex.refl _) _ d3 _ fun σ3 ⟨a, b, c, hs3, r1, r2, r3⟩ => ?_
      subst hs3
      have tk := take_snoc hi
      refine s_if d3 (b := hourOn ts hour nm) ((et_test (ev_chain (g := fun i j => decide (i ≤ j)) (g' := fun i j => decide (i < j)) (ev_v rfl r1) (ev_v rfl ((p3.ex e).ex e3)) (ev_v rfl r2))).of ?_) (fun hb G4 e4 d4 => ?_) fun hb G4 e4 d4 => ?_
      · unfold hourOn
        congr 1
        · exact decide_eq_decide.mpr (by omega)
        · exact decide_eq_decide.mpr (by omega)
      · have E4 := (e.trans e3).trans e4
        obtain ⟨cc, hc⟩ := getK_some (h3 nm hm)
        have hlen : vs.length ≤ 1000 := by
          have z : vs.length = (eLoads (loadsAt loads ts (names.take i) hour)).length := Paired.length hk
          unfold eLoads loadsAt at z
          rw [List.length_map, List.length_map] at z
          have := List.length_filter_le (hourOn ts hour) (names.take i)
          rw [List.length_take] at this
          omega
        have hnone : valV vs (Sum.inr nm : Key) = none := by
          have z := kds_get (s := nm) hk
          have e0 : getK (eLoads (loadsAt loads ts (names.take i) hour)) nm = none := by
            refine getK_none ?_
            rw [eLoads_keys, loadsAt_keys]
            intro hmm
            exact nodup_at h1 hi (List.mem_filter.mp hmm).1
          rw [e0] at z
          exact z
        refine s_dput d4 upd_same rfl hlen (ev_dget (s := nm) (d := .int cc) (ev_var rfl mo_Dk (mo_Dk _ _ _ E4 p0)) (ev_v rfl ((r.ex e3).ex e4)) (by rw [getK_loadsO, hc]; rfl)) mo_D (fun G' e' => ev_v rfl (((r.ex e3).ex e4).ex e')) hnone fun v' G5 e5 d5 q5 => ?_
        rw [upd_upd] at d5 ⊢
        refine s_nx (s_nx (s_iv (((e2.trans e3).trans e4).trans e5) d5 rfl ⟨_, rfl, ?_, _, _, _, _, rfl⟩))
        rw [tk, loadsAt_snoc, if_pos hb]
        unfold eLoads
        rw [List.map_append]
        refine paired_app (kds_ex ((e3.trans e4).trans e5) hk) (.cons ⟨rfl, ?_⟩ .nil)
        have : loadOf loads nm = cc := by unfold loadOf; rw [hc]; rfl
        show D K (.int (loadOf loads nm)) v' G5
        rw [this]
        exact q5
      · refine s_nx (s_nx (s_iv ((e2.trans e3).trans e4) d4 rfl ⟨vs, rfl, ?_, _, _, _, _, rfl⟩))
        rw [tk, loadsAt_snoc, if_neg (by rw [hb]; decide), List.append_nil]
        exact kds_ex (e3.trans e4) hk
  · rintro i σ' G0 G' F' e ⟨vs, rfl, hk, o⟩
    exact ⟨vs, rfl, kds_ex e hk, o⟩
  · rintro σ' G2 F' e2 d2 ⟨vs, rfl, hk, o5, o6, o7, o8, rfl⟩
    rw [List.take_length] at hk
    have n3 : G2 p = none := d2.n upd_same
    rw [upd_lr n3]
    have d4 : Dj (upd G2 p (.dK vs)) F := (d2.off n2).newL n2
    exact s_ret d4 (ev_var rfl mo_Dx ⟨p, vs, rfl, upd_same, kds_ex (Ex.new n3) hk⟩) fun v G5 e5 d5 q => k v G5 ((e1.trans e2).trans ((Ex.new n3).trans e5)) d5 q
/-! ### a day, hour by hour -/
def dayF (pl : PlanD) (wir : List (Option Nat)) (ld : Nat → Loads) (i : Nat) : List Bool × List (Nat × Nat) := (List.range i).foldl (hourStep pl wir ld) (allOn pl, [])
theorem dayF_succ {pl : PlanD} {wir : List (Option Nat)} {ld : Nat → Loads} {i : Nat} : dayF pl wir ld (i + 1) = hourStep pl wir ld (dayF pl wir ld i) i := by
  unfold dayF
  rw [List.range_succ, List.foldl_append]
  rfl
theorem dayF_len {pl : PlanD} {wir : List (Option Nat)} {ld : Nat → Loads} : ∀ i, (dayF pl wir ld i).1.length = pl.rates.length ∧ (dayF pl wir ld i).2.length ≤ i * pl.rates.length
  | 0 => ⟨by show (allOn pl).length = _; unfold allOn; rw [List.length_replicate], by simp [dayF]⟩
  | i + 1 => by
    obtain ⟨h1, h2⟩ := dayF_len (pl := pl) (wir := wir) (ld := ld) i
    rw [dayF_succ]
    unfold hourStep
    obtain ⟨t1, t2⟩ := trips_len (pl := pl) (wir := wir) (loads := ld i) pl.rates.length (dayF pl wir ld i).1
    refine ⟨t1.trans h1, ?_⟩
    rw [List.length_append, List.length_map, Nat.add_mul, Nat.one_mul]
    exact Nat.add_le_add h2 t2
theorem fd_trips_of (F : Df K mg "trips_of" st_trips_of) (T : Txf mg) (D1 : FD P w K mg base 3 "all_on" ps_all_on (sp_all_on K C)) (D2 : FD P w K mg base 6 "trips_in" ps_trips_in (sp_trips_in K C)) (D3 : FD P w K mg base 1 "loads_at" ps_loads_at (sp_loads_at K C)) : FD P w K mg base 7 "trips_of" ps_trips_of (sp_trips_of K C) := by
  refine fd_S F sc_trips_of rfl (fun _ _ _ _ _ _ us hl => match us, hl with | [_, _, _, _, _], _ => rfl) fun f cdv A outer s H E hr => ⟨_, dv_trips_of T D3 D2 D1 hr, ?_⟩
  rintro vs Q ⟨pl, wir, loads, ts, names⟩ G F dj al ⟨hp, hw, hld, h1, h2, h3⟩ k
  obtain ⟨v0, v1, v2, v3, v4, rfl, p0, p1, p2, p3, p4⟩ := al5 al
  have p0 : Pl K C pl v0 G := p0
  have p1 : D K (eOpts wir) v1 G := p1
  have p2 : Dk K (eLoads loads) v2 G := p2
  have p3 : Dk K (eTimers ts) v3 G := p3
  have p4 : D K (eNames names) v4 G := p4
  have hp : PlOk pl := hp
  have hw : WirOk pl wir := hw
  have hld : LdOk pl loads := hld
  have hn := hp.n2
  refine s_parL dj (c_all_on pl (ea_cons (ev_var rfl mo_Pl p0) mo_Pl ea_nil) hp) mo_D fun v5 p G1 e1 n1 n2 d1 q5 => ?_
  refine s_for d1 (ei_range1 (K := K) (n := 24) (ev_int 24) (by omega)) fun G2 e2 d2 => ⟨fun i σ G' F' => ∃ (xs : List V) (x5 : V), F' = upd F p (.lst xs) ∧ DpAll K G' xs (ePairs (dayF pl wir (loadsAt loads ts names) i).2) ∧ D K (eBools (dayF pl wir (loadsAt loads ts names) i).1) x5 G' ∧ ∃ o7 o8 o9, σ = [some v0, some v1, some v2, some v3, some v4, some x5, some (.ref p), o7, o8, o9],
    ⟨[], v5, rfl, .nil, q5.ex e2, none, none, none, rfl⟩, ?_, ?_, ?_⟩
  · rintro i h x σ' G3 F' hi e3 d3 r ⟨xs, x5, rfl, hx, h5, o7, o8, o9, rfl⟩
    have hih : h = i := by
      rw [List.getElem?_eq_some_iff] at hi
      obtain ⟨_, hi⟩ := hi
      rw [List.getElem_range] at hi
      exact hi.symm
    subst hih
    have hlt : h < 24 := by
      have := (List.getElem?_eq_some_iff.mp hi).1
      rwa [List.length_range] at this
    have e := (e1.trans e2).trans e3
    obtain ⟨l1, l2⟩ := dayF_len (pl := pl) (wir := wir) (ld := loadsAt loads ts names) h
    have hl2 : (dayF pl wir (loadsAt loads ts names) h).2.length ≤ 24 * 5 := Nat.le_trans l2 (Nat.mul_le_mul (Nat.le_of_lt hlt) hn)
    obtain ⟨t1, t2⟩ := trips_len (pl := pl) (wir := wir) (loads := loadsAt loads ts names h) pl.rates.length (dayF pl wir (loadsAt loads ts names) h).1
    refine (eg_name (G := G3)) G3 (Ex.refl _) _ d3 _ fun σ2 hs2 => ?_
    subst hs2
    have r : D K (.int (h : Int)) x G3 := r
    refine s_tgt d3 (c_trips_in (pl, wir, (dayF pl wir (loadsAt loads ts names) h).1, loadsAt loads ts names h) (ea_cons (ev_var rfl mo_Pl (mo_Pl _ _ _ e p0)) mo_Pl (ea_d (ev_v rfl (p1.ex e)) (ea_d (ev_v rfl h5) (ea_cons ((c_loads_at (loads, ts, names, h) (ea_cons (ev_var rfl mo_Dk (mo_Dk _ _ _ e p2)) mo_Dk (ea_cons (ev_var rfl mo_Dk (mo_Dk _ _ _ e p3)) mo_Dk (ea_d (ev_v rfl (p4.ex e)) (ea_d (ev_v rfl r) ea_nil)))) ⟨h1, h2, h3⟩).imp fun v G' _ q => Dx.dk q) mo_Dk ea_nil)))) ⟨⟨hp, hw, l1⟩, loadsAt_ge hld ts names h⟩) fun v G4 e4 d4 pv => ?_
    refine (eg_pair pv) G4 (Ex.refl _) _ d4 _ fun σ3 ⟨a, b, hs3, r1, r2⟩ => ?_
    subst hs3
    have r1 : D K (eBools (trips pl wir (dayF pl wir (loadsAt loads ts names) h).1 (loadsAt loads ts names h)).1) a G4 := r1
    have r2 : D K (.tuple (eNats (trips pl wir (dayF pl wir (loadsAt loads ts names) h).1 (loadsAt loads ts names h)).2)) b G4 := r2
    refine s_ext (ds := (trips pl wir (dayF pl wir (loadsAt loads ts names) h).1 (loadsAt loads ts names h)).2.map fun bb => ePair (h, bb)) d4 upd_same rfl ?_ (e_lcM (xs := (trips pl wir (dayF pl wir (loadsAt loads ts names) h).1 (loadsAt loads ts names h)).2) (enc := fun (n : Nat) => PyData.int (n : Int)) (fun bb => ePair (h, bb)) (ei_tup (ev_v rfl r2)) (by have : (trips pl wir (dayF pl wir (loadsAt loads ts names) h).1 (loadsAt loads ts names h)).2.length ≤ pl.rates.length := t2; omega) (fun _ => rfl) fun bb y G' hm e' ry => ev_tup (ds := [.int (h : Int), .int (bb : Int)]) (ea_d (ev_v rfl ((r.ex e4).ex e')) (ea_d (ev_v rfl ry) ea_nil)) (by simp)) fun ys G5 e5 d5 hy => ?_
    · have := dpA_len hx
      rw [List.length_map]
      unfold ePairs at this
      rw [List.length_map] at this
      have : (trips pl wir (dayF pl wir (loadsAt loads ts names) h).1 (loadsAt loads ts names h)).2.length ≤ pl.rates.length := t2
      omega
    · rw [upd_upd] at d5 ⊢
      refine s_nx (s_iv ((e3.trans e4).trans e5) d5 rfl ⟨_, a, rfl, ?_, ?_, _, _, _, rfl⟩)
      · rw [dayF_succ]
        unfold hourStep ePairs
        rw [List.map_append, List.map_map]
        exact dpA_app (dpA_ex (e4.trans e5) _ _ hx) hy
      · rw [dayF_succ]
        exact r1.ex e5
  · rintro i σ' G0 G' F' e ⟨xs, x5, rfl, hx, h5, o⟩
    exact ⟨xs, x5, rfl, dpA_ex e _ _ hx, h5.ex e, o⟩
  · rintro σ' G3 F' e3 d3 ⟨xs, x5, rfl, hx, h5, o7, o8, o9, rfl⟩
    rw [List.length_range] at hx
    have n3 : G3 p = none := d3.n upd_same
    rw [upd_lr n3]
    have d4 : Dj (upd G3 p (.lst xs)) F := (d3.off n2).newL n2
    exact s_ret d4 (ev_v (d := .list (ePairs (tripsOf pl wir (loadsAt loads ts names)))) rfl (dLst upd_same (dpA_ex (Ex.new n3) _ _ hx))) fun v G5 e5 d5 q => k v G5 (((e1.trans e2).trans e3).trans ((Ex.new n3).trans e5)) d5 q
theorem namesOn_ok {loads : Loads} {ts : Timers} {n : Nat} (h1 : Asc (loads.map Prod.fst)) (h2 : loads.length ≤ 5) : (namesOn loads ts n).Nodup ∧ (namesOn loads ts n).length ≤ 5 ∧ ∀ m ∈ namesOn loads ts n, m ∈ loads.map Prod.fst := by
  unfold namesOn
  refine ⟨(asc_nodup h1).filter _, ?_, fun m hm => (List.mem_filter.mp hm).1⟩
  have := List.length_filter_le (dayOn ts n) (loads.map Prod.fst)
  rw [List.length_map] at this
  omega
theorem fd_day (F : Df K mg "day" st_day) (T : Txf mg) (D1 : FD P w K mg base 6 "check_timed" ps_check_timed (sp_check_timed K C)) (D2 : FD P w K mg base 2 "check_count" ps_check_count (sp_check_count K C)) (D3 : FD P w K mg base 7 "trips_of" ps_trips_of (sp_trips_of K C)) (D4 : FD P w K mg base 1 "names_on" ps_names_on (sp_names_on K C)) : FD P w K mg base 8 "day" ps_day (sp_day K C) := by
  refine fd_S F sc_day rfl (fun _ _ _ _ _ _ us hl => match us, hl with | [_, _, _, _, _], _ => rfl) fun f cdv A outer s H E hr => ⟨_, dv_day T D4 D3 D2 D1 hr, ?_⟩
  rintro vs Q ⟨⟨pl, wir, loads, ts⟩, n⟩ G F dj al ⟨hq, hn⟩ k
  obtain ⟨v0, v1, v2, v3, v4, rfl, p0, p1, p2, p3, p4⟩ := al5 al
  have hq' := hq
  obtain ⟨hp, hw, hf, hl, ht⟩ := hq'
  have p0 : Pl K C pl v0 G := p0
  have p1 : D K (eOpts wir) v1 G := p1
  have p2 : Dk K (eLoads loads) v2 G := p2
  have p3 : Dk K (eTimers ts) v3 G := p3
  have p4 : D K (.int (n : Int)) v4 G := p4
  have hl : LdOk pl loads := hl
  have ht : TsOk pl ts := ht
  refine s_drop dj (c_check_timed (pl, wir, loads, ts) (ea_cons (ev_var rfl mo_Pl p0) mo_Pl (ea_d (ev_v rfl p1) (ea_cons (ev_var rfl mo_Dk p2) mo_Dk (ea_cons (ev_var rfl mo_Dk p3) mo_Dk ea_nil)))) hq) fun _ G1 e1 d1 _ => ?_
  refine s_drop d1 (c_check_count (n, 10 ^ 18) (ea_d (ev_v rfl (p4.ex e1)) (ea_d (ev_int _) ea_nil)) hn) fun _ G2 e2 d2 _ => ?_
  have e := e1.trans e2
  obtain ⟨a1, a2, a3⟩ := namesOn_ok (ts := ts) (n := n) hl.1 hl.2.1
  have g2 := mo_Dk _ _ _ e p2
  have g3 := mo_Dk _ _ _ e p3
  exact s_ret d2 (c_trips_of (pl, wir, loads, ts, namesOn loads ts n) (ea_cons (ev_var rfl mo_Pl (mo_Pl _ _ _ e p0)) mo_Pl (ea_d (ev_v rfl (p1.ex e)) (ea_cons (ev_var rfl mo_Dk g2) mo_Dk (ea_cons (ev_var rfl mo_Dk g3) mo_Dk (ea_d ((c_names_on (loads, ts, n) (ea_cons (ev_var rfl mo_Dk g2) mo_Dk (ea_cons (ev_var rfl mo_Dk g3) mo_Dk (ea_d (ev_v rfl (p4.ex e)) ea_nil))) ⟨hl.1, hl.2.1, fun p hp => (ht.2.2 p hp).2⟩).imp fun v G' _ q => Tx.d q) ea_nil))))) ⟨hp, hw, hl, a1, a2, a3⟩) fun v G3 e3 d3 q => k v G3 (e.trans e3) d3 q

end
end Bf
set_option Elab.async false
set_option linter.all false
set_option maxRecDepth 100000
set_option maxHeartbeats 4000000
namespace Bf
open PySem PyProof.Rows L2
section
variable {P : Program} {w : World} {K : PySem.W.Frag} {mg : Str → Option Value} {base : Heap} {C : Addr}
/-! ### the days come again -/
theorem foldl_lcm_mul (l : List (Str × Tm)) (a b : Nat) : l.foldl (fun a t => Nat.lcm a t.2.v) (Nat.lcm a b) = Nat.lcm a (l.foldl (fun a t => Nat.lcm a t.2.v) b) := by
  induction l generalizing b with
  | nil => rfl
  | cons t r ih => rw [List.foldl_cons, List.foldl_cons, Nat.lcm_assoc, ih]
theorem lenOf_cons (t : Str × Tm) (r : Timers) : lenOf (t :: r) = Nat.lcm t.2.v (lenOf r) := by
  unfold lenOf
  rw [List.foldl_cons, Nat.lcm_comm 1, foldl_lcm_mul]
theorem lenOf_dvd {ts : Timers} (h : ∀ p ∈ ts, TmOk p.2) : lenOf ts ∣ 12 := by
  induction ts with
  | nil => exact Nat.one_dvd _
  | cons t r ih =>
    rw [lenOf_cons]
    refine Nat.lcm_dvd ?_ (ih fun p hp => h p (List.mem_cons_of_mem _ hp))
    obtain ⟨_, _, _, h4, h5⟩ := h t List.mem_cons_self
    have : t.2.v = 1 ∨ t.2.v = 2 ∨ t.2.v = 3 ∨ t.2.v = 4 := by omega
    rcases this with e | e | e | e <;> rw [e] <;> decide
theorem lenOf_pos {ts : Timers} (h : ∀ p ∈ ts, TmOk p.2) : 1 ≤ lenOf ts := by
  have := Nat.pos_of_dvd_of_pos (lenOf_dvd h) (by decide)
  omega
theorem lenOf_le {ts : Timers} (h : ∀ p ∈ ts, TmOk p.2) : lenOf ts ≤ 12 := Nat.le_of_dvd (by decide) (lenOf_dvd h)
theorem dvd_lenOf {ts : Timers} {p : Str × Tm} (hp : p ∈ ts) : p.2.v ∣ lenOf ts := by
  induction ts with
  | nil => cases hp
  | cons t r ih =>
    rw [lenOf_cons]
    rcases List.mem_cons.mp hp with rfl | hp
    · exact Nat.dvd_lcm_left _ _
    · exact Nat.dvd_trans (ih hp) (Nat.dvd_lcm_right _ _)
theorem tmOf_dvd {ts : Timers} (n : Str) : (tmOf ts n).v ∣ lenOf ts := by
  unfold tmOf
  cases e : getK ts n with
  | none => exact Nat.one_dvd _
  | some t => exact dvd_lenOf (getK_mem e)
theorem namesOn_mod {loads : Loads} {ts : Timers} {n L : Nat} (h : lenOf ts ∣ L) : namesOn loads ts n = namesOn loads ts (n % L) := by
  unfold namesOn
  congr 1
  funext m
  unfold dayOn
  have hd := Nat.dvd_trans (tmOf_dvd (ts := ts) m) h
  rw [Nat.mod_mod_of_dvd n hd]
theorem dayP_mod {pl : PlanD} {wir : List (Option Nat)} {loads : Loads} {ts : Timers} {n L : Nat} (h : lenOf ts ∣ L) : dayP pl wir loads ts n = dayP pl wir loads ts (n % L) := by
  unfold dayP
  rw [namesOn_mod h]
theorem cnt_mod {pl : PlanD} {wir : List (Option Nat)} {loads : Loads} {ts : Timers} {b n L : Nat} (h : lenOf ts ∣ L) : cnt pl wir loads ts b n = cnt pl wir loads ts b (n % L) := by
  unfold cnt
  rw [dayP_mod h]
theorem sumTo_add (f : Nat → Nat) (a b : Nat) : sumTo f (a + b) = sumTo f a + sumTo (fun i => f (a + i)) b := by
  unfold sumTo
  rw [List.range_add, List.map_append, List.sum_append, List.map_map]
  rfl
theorem sumTo_round {f : Nat → Nat} {L : Nat} (hf : ∀ n, f n = f (n % L)) : ∀ q r, sumTo f (q * L + r) = q * sumTo f L + sumTo f r
  | 0, r => by simp
  | q + 1, r => by
    have e : (q + 1) * L + r = L + (q * L + r) := by rw [Nat.add_mul]; omega
    rw [e, sumTo_add]
    have e2 : (fun i => f (L + i)) = f := by
      funext i
      rw [hf (L + i), hf i, Nat.add_mod_left]
    rw [e2, sumTo_round hf q r, Nat.add_mul]
    omega
theorem sumTo_split {f : Nat → Nat} {L n : Nat} (hf : ∀ n, f n = f (n % L)) : sumTo f n = (n / L) * sumTo f L + sumTo f (n % L) := by
  have := sumTo_round hf (n / L) (n % L)
  rw [Nat.mul_comm, Nat.div_add_mod] at this
  rw [this, Nat.mul_comm]
theorem sumTo_take (f : Nat → Nat) {L r : Nat} (h : r ≤ L) : (((List.range L).map f).take r).sum = sumTo f r := by
  unfold sumTo
  rw [← List.map_take, List.take_range, Nat.min_eq_left h]
/-! ### the least common multiple, by adding up -/
theorem lcm_step {a v j : Nat} (ha : 1 ≤ a) (hv : 1 ≤ v) (h1 : 1 ≤ j) (h2 : a * j ≤ Nat.lcm a v) (h : v ∣ a * j) : a * j = Nat.lcm a v :=
  Nat.le_antisymm h2 (Nat.le_of_dvd (Nat.mul_pos ha h1) (Nat.lcm_dvd (Nat.dvd_mul_right _ _) h))
theorem lcm_next {a v j : Nat} (ha : 1 ≤ a) (hv : 1 ≤ v) (h2 : a * j ≤ Nat.lcm a v) (h : ¬ v ∣ a * j) : a * (j + 1) ≤ Nat.lcm a v := by
  obtain ⟨k, hk⟩ := Nat.dvd_lcm_left a v
  rw [hk] at h2 ⊢
  refine Nat.mul_le_mul_left _ ?_
  have hjk : j ≤ k := Nat.le_of_mul_le_mul_left h2 ha
  rcases Nat.lt_or_ge j k with q | q
  · exact q
  · have : j = k := Nat.le_antisymm hjk q
    subst this
    exact absurd (hk ▸ Nat.dvd_lcm_right a v) h
section
variable {σ : St} {G G' F : Hp} {ta tb te tx td ty to ti : TE} {t u : L2.TT} {P' P1 P2 : V → Hp → Prop} {v : V} {α β : Type}
/-- the values of a locked dict -/
theorem ei_vals {as : List (Str × β)} {enc : β → PyData} {a : Addr} {od : Obj} {vs : List (Key × V)} {i : Nat} (hi : σ[i]? = some (some (.ref a))) (h : G a = some (.frz od (.dK vs))) (hk : KDs K G vs (as.map fun p => (p.1, enc p.2))) : EvI (iVals (tVar i)) σ G as (fun p => D K (enc p.2)) := fun G1 e F dj Q q => by
  refine ⟨_, hi, a, od, vs, rfl, un_l (e _ _ h), ?_⟩
  refine q _ G1 (Ex.refl _) dj ⟨fun j G2 F2 hj e2 d2 => ⟨un_l (e2 _ _ (e _ _ h)), ?_⟩, fun G2 F2 e2 d2 => ⟨un_l (e2 _ _ (e _ _ h)), ?_⟩, fun j b G2 F2 x H' hb e2 d2 y => ?_⟩
  · have z : vs.length = _ := Paired.length hk
    rw [z, List.length_map]
    exact hj
  · have z : vs.length = _ := Paired.length hk
    rw [z, List.length_map]
    exact Nat.le_refl _
  · obtain ⟨rfl, k, hx⟩ := y
    refine ⟨G2, Ex.refl _, d2, rfl, ?_⟩
    have key : ∀ {vs : List (Key × V)} {bs : List (Str × PyData)} {j : Nat} {k : Key} {x : V} {b : Str × PyData}, KDs K G2 vs bs → vs[j]? = some (k, x) → bs[j]? = some b → k = Sum.inr b.1 ∧ D K b.2 x G2 := by
      intro vs bs j k x b hk
      induction hk generalizing j with
      | nil => intro h; simp at h
      | cons h t ih =>
        intro h1 h2
        cases j with
        | zero =>
          simp at h1 h2
          subst h1 h2
          exact ⟨h.1, h.2⟩
        | succ j => exact ih (by simpa using h1) (by simpa using h2)
    exact (key (kds_ex (e.trans e2) hk) hx (by rw [List.getElem?_map, hb]; rfl)).2
/-- the keys of a locked dict -/
theorem ei_keys {as : List (Str × β)} {enc : β → PyData} {a : Addr} {od : Obj} {vs : List (Key × V)} {i : Nat} (hi : σ[i]? = some (some (.ref a))) (h : G a = some (.frz od (.dK vs))) (hk : KDs K G vs (as.map fun p => (p.1, enc p.2))) : EvI (iKeys (tVar i)) σ G as (fun p => D K (.str p.1)) := fun G1 e F dj Q q => by
  refine ⟨_, hi, a, od, rfl, .inl ⟨vs, un_l (e _ _ h), ?_⟩⟩
  refine q _ G1 (Ex.refl _) dj ⟨fun j G2 F2 hj e2 d2 => ⟨un_l (e2 _ _ (e _ _ h)), ?_⟩, fun G2 F2 e2 d2 => ⟨un_l (e2 _ _ (e _ _ h)), ?_⟩, fun j b G2 F2 x H' hb e2 d2 y => ?_⟩
  · have z : vs.length = _ := Paired.length hk
    rw [z, List.length_map]
    exact hj
  · have z : vs.length = _ := Paired.length hk
    rw [z, List.length_map]
    exact Nat.le_refl _
  · obtain ⟨rfl, k, w, hx, rfl⟩ := y
    refine ⟨G2, Ex.refl _, d2, rfl, ?_⟩
    have hkeys := (kds_keys hk).2
    have z : (vs.map (·.1))[j]? = some k := by rw [List.getElem?_map, hx]; rfl
    rw [hkeys, List.map_map, List.map_map, List.getElem?_map, hb] at z
    cases z
    exact dStr _
end
theorem fd_length_of (F : Df K mg "length_of" st_length_of) (T : Txf mg) : FD P w K mg base 1 "length_of" ps_length_of (sp_length_of K C) := by
  refine fd_S F sc_length_of rfl (fun _ _ _ _ _ _ us hl => match us, hl with | [_], _ => rfl) fun f cdv A outer s H E hr => ⟨_, dv_length_of (C := C) T hr, ?_⟩
  rintro vs Q ts G F dj al ⟨h1, h2⟩ k
  obtain ⟨v0, rfl, p0⟩ := al1 al
  obtain ⟨a, vs, rfl, ha, hk⟩ := p0
  refine s_set dj (ev_int (K := K) 1) fun v1 G1 e1 d1 q1 => ?_
  obtain rfl := q1.int
  have ha1 := e1 _ _ ha
  have hk1 := kds_ex e1 hk
  refine s_lock d1 ha1 fun od D' hnx hrt d2 => ?_
  have hk2 := kds_frz (od := od) ha1 hk1
  refine s_for d2 (ei_vals (as := ts) (enc := eTm) rfl upd_same hk2) fun G2 e2 d2 => ⟨fun i σ G' F' => F' = F ∧ ∃ o2 o3 o4 o5, σ = [some (.ref a), some (.int (lenOf (ts.take i) : Nat)), o2, o3, o4, o5], ⟨rfl, none, none, none, none, rfl⟩, ?_, fun _ _ _ _ _ _ h => h, ?_⟩
  · rintro i ⟨nm, tm⟩ x σ' G3 F' hi e3 d3 r ⟨rfl, o2, o3, o4, o5, rfl⟩
    have r : D K (.tuple [.int (tm.b : Int), .int (tm.e : Int), .int (tm.v : Int)]) x G3 := r
    refine (eg_triple r) G3 (Ex.refl _) _ d3 _ fun σ2 ⟨b, e, c, hs2, r1, r2, r3⟩ => ?_
    subst hs2
    obtain rfl := r1.int
    obtain rfl := r2.int
    obtain rfl := r3.int
    have tk := take_snoc hi
    have hok := h2 _ (List.mem_of_getElem? hi)
    have hv : 1 ≤ tm.v := hok.2.2.2.1
    have hacc := lenOf_pos (ts := ts.take i) fun p hp => h2 p (List.mem_of_mem_take hp)
    have hlen : lenOf (ts.take (i + 1)) = Nat.lcm (lenOf (ts.take i)) tm.v := by
      rw [tk]
      unfold lenOf
      rw [List.foldl_append]
      rfl
    generalize hacc' : lenOf (ts.take i) = acc at *
    refine s_set d3 (ev_v (K := K) (d := .int (acc : Int)) rfl (dInt _)) fun v5 G4 e4 d4 q5 => ?_
    obtain rfl := q5.int
    refine s_whileT d4 (fun m σ G' F'' => F'' = F' ∧ ∃ j, 1 ≤ j ∧ acc * j ≤ Nat.lcm acc tm.v ∧ m = Nat.lcm acc tm.v - acc * j ∧ σ = [some (.ref a), some (.int ((acc * j : Nat) : Int)), some (.int (tm.b : Int)), some (.int (tm.e : Int)), some (.int (tm.v : Int)), some (.int (acc : Int))]) (Nat.lcm acc tm.v - acc * 1)
      ⟨rfl, 1, Nat.le_refl _, by rw [Nat.mul_one]; exact Nat.le_of_dvd (Nat.lcm_pos hacc hv) (Nat.dvd_lcm_left _ _), rfl, by rw [Nat.mul_one]; rfl⟩ (fun _ _ _ _ => True) ?_
    rintro m σ' G5 F'' e5 d5 ⟨rfl, j, hj1, hj2, rfl, rfl⟩
    refine ⟨!decide ((acc * j) % tm.v = 0), (et_test (ev_neD (ev_mod (ev_intc (ev_v (K := K) (d := .int ((acc * j : Nat) : Int)) rfl (dInt _))) (ev_v (d := .int (tm.v : Int)) rfl (dInt _)) (by omega)) (ev_int 0) rfl rfl)).of ?_, fun hb G6 e6 d6 => ?_, fun hb G6 e6 d6 => ?_⟩
    · rw [eqvI]
      congr 1
      apply decide_eq_decide.mpr
      rw [mod_eq]
      omega
    · have hnd : ¬ tm.v ∣ acc * j := fun z => by
        rw [Nat.mod_eq_zero_of_dvd z] at hb
        simp at hb
      have hnext := lcm_next hacc hv hj2 hnd
      refine ⟨Iv G4 fun σ G' F3 => F3 = F'' ∧ ∃ j', 1 ≤ j' ∧ acc * j' ≤ Nat.lcm acc tm.v ∧ Nat.lcm acc tm.v - acc * (j + 1) = Nat.lcm acc tm.v - acc * j' ∧ σ = [some (.ref a), some (.int ((acc * j' : Nat) : Int)), some (.int (tm.b : Int)), some (.int (tm.e : Int)), some (.int (tm.v : Int)), some (.int (acc : Int))], fun σ2 H2 q => ⟨_, ?_, q⟩, ?_⟩
      · have : acc * (j + 1) = acc * j + acc := Nat.mul_succ _ _
        omega
      · refine ⟨_, rfl, _, rfl, _, _, rfl, rfl, ?_⟩
        refine s_nx (s_iv (e5.trans e6) d6 rfl ⟨rfl, j + 1, by omega, hnext, rfl, ?_⟩)
        have : ((acc * (j + 1) : Nat) : Int) = ((acc * j : Nat) : Int) + (acc : Int) := by
          have : acc * (j + 1) = acc * j + acc := Nat.mul_succ _ _
          omega
        rw [this]
        rfl
    · have hd : tm.v ∣ acc * j := Nat.dvd_of_mod_eq_zero (by simpa using hb)
      have he := lcm_step hacc hv hj1 hj2 hd
      refine s_nx (s_iv ((e3.trans e4).trans (e5.trans e6)) d6 rfl ⟨rfl, some (.int (tm.b : Int)), some (.int (tm.e : Int)), some (.int (tm.v : Int)), some (.int (acc : Int)), ?_⟩)
      rw [hlen, ← he]
  · rintro σ' G3 F' e3 d3 ⟨rfl, o2, o3, o4, o5, rfl⟩
    rw [List.take_length]
    refine s_nx (hnx _ G3 F' (e2.trans e3) d3 ?_)
    have e5 := ex_thaw ha1 (e2.trans e3)
    have fa : F' a = none := d1 a _ ha1
    exact s_ret (d3.newL fa) (ev_v (K := K) (d := .int ((lenOf ts : Nat) : Int)) rfl (dInt _)) fun v G5 e6 d5 q => k v G5 (e1.trans (e5.trans e6)) d5 q

end
end Bf
set_option Elab.async false
set_option linter.all false
set_option maxRecDepth 100000
set_option maxHeartbeats 4000000
namespace Bf
open PySem PyProof.Rows L2
section
variable {P : Program} {w : World} {K : PySem.W.Frag} {mg : Str → Option Value} {base : Heap} {C : Addr}
def dayKs (pl : PlanD) (wir : List (Option Nat)) (loads : Loads) (ts : Timers) (ks : List Str) : List Nat := (tripsOf pl wir (loadsAt loads ts ks)).map Prod.snd
theorem rows_at {pl : PlanD} {wir : List (Option Nat)} {loads : Loads} {ts : Timers} {i : Nat} : (dayP pl wir loads ts i).map Prod.snd = dayKs pl wir loads ts (namesOn loads ts i) := rfl
theorem tripsOf_len {pl : PlanD} {wir : List (Option Nat)} {ld : Nat → Loads} (hp : PlOk pl) : (tripsOf pl wir ld).length ≤ 120 := by
  have h := (dayF_len (pl := pl) (wir := wir) (ld := ld) 24).2
  have : 24 * pl.rates.length ≤ 24 * 5 := Nat.mul_le_mul_left _ hp.n2
  exact Nat.le_trans h this
theorem fd_day_rows (F : Df K mg "day_rows" st_day_rows) (T : Txf mg) (D1 : FD P w K mg base 1 "length_of" ps_length_of (sp_length_of K C)) (D2 : FD P w K mg base 7 "trips_of" ps_trips_of (sp_trips_of K C)) (D3 : FD P w K mg base 1 "names_on" ps_names_on (sp_names_on K C)) : FD P w K mg base 8 "day_rows" ps_day_rows (sp_day_rows K C) := by
  refine fd_S F sc_day_rows rfl (fun _ _ _ _ _ _ us hl => match us, hl with | [_, _, _, _], _ => rfl) fun f cdv A outer s H E hr => ⟨_, dv_day_rows T D1 D2 D3 hr, ?_⟩
  rintro vs Q ⟨pl, wir, loads, ts⟩ G F dj al ⟨hp, hw, hf, hl, ht⟩ k
  obtain ⟨v0, v1, v2, v3, rfl, p0, p1, p2, p3⟩ := al4 al
  have p0 : Pl K C pl v0 G := p0
  have p1 : D K (eOpts wir) v1 G := p1
  have p2 : Dk K (eLoads loads) v2 G := p2
  have p3 : Dx K (eTimers ts) v3 G := p3
  have hp : PlOk pl := hp
  have hw : WirOk pl wir := hw
  have hl : LdOk pl loads := hl
  have ht : TsOk pl ts := ht
  have hts : ∀ p ∈ ts, TmOk p.2 := fun p hp => (ht.2.2 p hp).2
  have hL := lenOf_le hts
  refine s_parDT dj fun d p n1 n2 n3 n4 hne d1 => ?_
  refine s_for d1 (ei_range1 (n := lenOf ts) (c_length_of ts (ea_cons (ev_var rfl mo_Dx p3) mo_Dx ea_nil) ⟨ht.2.1, hts⟩) (by omega)) fun G1 e1 d1 => ⟨fun i σ G' F' => ∃ (vs : List (List Key × V)) (xs : List V), F' = upd (upd F d (.dT vs)) p (.lst xs) ∧ vs.length ≤ i ∧ (∀ ks v, valV vs (kT ks) = some v → D K (.list (eNats (dayKs pl wir loads ts ks))) v G') ∧
      DpAll K G' xs ((List.range i).map fun n => .list (eNats ((dayP pl wir loads ts n).map Prod.snd))) ∧ ∃ o6 o7 o8 o9, σ = [some v0, some v1, some v2, some v3, some (.ref d), some (.ref p), o6, o7, o8, o9],
    ⟨[], [], rfl, Nat.le_refl _, (fun ks v h => nomatch h), .nil, none, none, none, none, rfl⟩, ?_, ?_, ?_⟩
  · rintro i n x σ' G2 F' hi e2 d2 r ⟨vs, xs, rfl, hvl, hv, hx, o6, o7, o8, o9, rfl⟩
    have hin : n = i := by
      rw [List.getElem?_eq_some_iff] at hi
      obtain ⟨_, hi⟩ := hi
      rw [List.getElem_range] at hi
      exact hi.symm
    subst hin
    have hlt : n < 12 := by
      have := (List.getElem?_eq_some_iff.mp hi).1
      rw [List.length_range] at this
      omega
    have e := e1.trans e2
    have r : D K (.int (n : Int)) x G2 := r
    refine (eg_name (G := G2)) G2 (Ex.refl _) _ d2 _ fun σ2 hs2 => ?_
    subst hs2
    have g2 := mo_Dk _ _ _ e p2
    have g3 := (mo_Dx _ _ _ e p3).dk
    obtain ⟨a1, a2, a3⟩ := namesOn_ok (ts := ts) (n := n) hl.1 hl.2.1
    refine s_set d2 (c_names_on (loads, ts, n) (ea_cons (ev_var rfl mo_Dk g2) mo_Dk (ea_cons (ev_var rfl mo_Dk g3) mo_Dk (ea_d (ev_v rfl r) ea_nil))) ⟨hl.1, hl.2.1, hts⟩) fun v7 G3 e3 d3 q7 => ?_
    have q7 : Tx K ((namesOn loads ts n).map PyData.str) v7 G3 := q7
    have E3 := e.trans e3
    have hd : (upd (upd F d (.dT vs)) p (.lst xs)) d = some (.dT vs) := by rw [upd_ne hne, upd_same]
    -- behind the test: the row stands in the dict
    have tail : ∀ (vs' : List (List Key × V)) (G4 : Hp), Ex G3 G4 → Dj G4 (upd (upd F d (.dT vs')) p (.lst xs)) → vs'.length ≤ n + 1 → (∀ ks v, valV vs' (kT ks) = some v → D K (.list (eNats (dayKs pl wir loads ts ks))) v G4) → (∃ v, valV vs' (kT (namesOn loads ts n)) = some v) → ∀ o8 o9 (E : Ends), E.nx = Iv G1 (fun σ G' F' => ∃ (vs : List (List Key × V)) (xs : List V), F' = upd (upd F d (.dT vs)) p (.lst xs) ∧ vs.length ≤ n + 1 ∧ (∀ ks v, valV vs (kT ks) = some v → D K (.list (eNats (dayKs pl wir loads ts ks))) v G') ∧
      DpAll K G' xs ((List.range (n + 1)).map fun n => .list (eNats ((dayP pl wir loads ts n).map Prod.snd))) ∧ ∃ o6 o7 o8 o9, σ = [some v0, some v1, some v2, some v3, some (.ref d), some (.ref p), o6, o7, o8, o9]) →
        tSeq (tDrop (tBM K "list" rAppend (tVar 5) (tCons (tDGet (tVar 4) (tVar 7)) (tNil)))) (tNext) E [some v0, some v1, some v2, some v3, some (.ref d), some (.ref p), some x, some v7, o8, o9] (un G4 (upd (upd F d (.dT vs')) p (.lst xs))) := by
      intro vs' G4 e4 d4 hvl' hv' ⟨w0, hw0⟩ o8 o9 E hE
      have hd' : (upd (upd F d (.dT vs')) p (.lst xs)) d = some (.dT vs') := by rw [upd_ne hne, upd_same]
      have hxl := dpA_len hx
      rw [List.length_map, List.length_range] at hxl
      refine s_appF d4 upd_same rfl (by omega) (ef_dgetT hd' (ef_own rfl) (fun G' e' => Ev.f (ev_var rfl mo_Tx (mo_Tx _ _ _ (e4.trans e') q7))) hw0) fun v G5 e5 d5 qv => ?_
      subst qv
      rw [upd_upd] at d5 ⊢
      refine s_nx ?_
      show E.nx _ _
      rw [hE]
      refine Iv.mk (((e2.trans e3).trans e4).trans e5) d5 ⟨vs', _, rfl, hvl', fun ks v h => (hv' ks v h).ex e5, ?_, _, _, _, _, rfl⟩
      rw [List.range_succ, List.map_append]
      exact dpA_app (dpA_ex ((e3.trans e4).trans e5) _ _ hx) (.cons ((hv' _ _ hw0).ex e5) .nil)
    refine s_ifNewT d3 hd (Ev.f (ev_var rfl mo_Tx q7)) (fun G' e' => ef_own rfl) (fun hnone G4 e4 d4 => ?_) fun w0 hw0 G4 e4 d4 => s_nx (tail vs G4 e4 d4 (by omega) (fun ks v h => (hv ks v h).ex (e3.trans e4)) ⟨w0, hw0⟩ _ _ _ rfl)
    have E4 := E3.trans e4
    have g2' := mo_Dk _ _ _ (e3.trans e4) g2
    have g3' := mo_Dk _ _ _ (e3.trans e4) g3
    have hd4 : (upd (upd F d (.dT vs)) p (.lst xs)) d = some (.dT vs) := hd
    refine s_dputT (P := D K (.list (eNats (dayKs pl wir loads ts (namesOn loads ts n))))) d4 hd4 (by omega) (Ev.f ?_) mo_D (fun G' e' => ef_own rfl) (fun G' e' => Ev.f (ev_var rfl mo_Tx (mo_Tx _ _ _ (e4.trans e') q7))) fun v G5 e5 d5 qv => ?_
    · refine (Ev.l (e_lcPM (xs := tripsOf pl wir (loadsAt loads ts (namesOn loads ts n))) (e1 := fun (q : Nat × Nat) => PyData.int (q.1 : Int)) (e2 := fun (q : Nat × Nat) => PyData.int (q.2 : Int)) (fun (q : Nat × Nat) => PyData.int (q.2 : Int)) (ei_list (enc := ePair) (c_trips_of (pl, wir, loads, ts, namesOn loads ts n) (ea_cons (ev_var rfl mo_Pl (mo_Pl _ _ _ E4 p0)) mo_Pl (ea_d (ev_v rfl (p1.ex E4)) (ea_cons (ev_var rfl mo_Dk g2') mo_Dk (ea_cons (ev_var rfl mo_Dk g3') mo_Dk (ea_d (ev_v rfl (mo_Tx _ _ _ e4 q7).d) ea_nil))))) ⟨hp, hw, hl, a1, a2, a3⟩)) (by have := tripsOf_len (wir := wir) (ld := loadsAt loads ts (namesOn loads ts n)) hp; omega) (fun _ _ => rfl) fun q x y G' hm e' r1 r2 => ev_v rfl r2)).of ?_
      unfold dayKs eNats
      rw [List.map_map]
      rfl
    · have hc : upd (upd (upd F d (.dT vs)) p (.lst xs)) d (.dT (putK vs (kT (namesOn loads ts n)) v)) = upd (upd F d (.dT (putK vs (kT (namesOn loads ts n)) v))) p (.lst xs) := by
        rw [upd_comm (Ne.symm hne), upd_upd]
      rw [hc] at d5 ⊢
      refine s_nx (s_nx (tail _ G5 (e4.trans e5) d5 (by have := length_putK vs (kT (namesOn loads ts n)) v; omega) (fun ks v' h => ?_) ⟨v, by rw [valV_put, if_pos rfl]⟩ _ _ _ rfl))
      rw [valV_put] at h
      by_cases hk : kT ks = kT (namesOn loads ts n)
      · rw [if_pos hk] at h
        cases h
        rw [kT_inj hk]
        exact qv
      · rw [if_neg hk] at h
        exact (hv ks v' h).ex ((e3.trans e4).trans e5)
  · rintro i σ' G0 G' F' e ⟨vs, xs, rfl, hvl, hv, hx, o⟩
    exact ⟨vs, xs, rfl, hvl, fun ks v h => (hv ks v h).ex e, dpA_ex e _ _ hx, o⟩
  · rintro σ' G2 F' e2 d2 ⟨vs, xs, rfl, hvl, hv, hx, o6, o7, o8, o9, rfl⟩
    rw [List.length_range] at hx
    have m1 : G2 p = none := d2.n upd_same
    have m2 : G2 d = none := d2.n (by rw [upd_ne hne]; exact upd_same)
    rw [upd_lr m1]
    have d3 := d2.off (by rw [upd_ne (Ne.symm hne)]; exact n4)
    have m3 : (upd G2 p (.lst xs)) d = none := by rw [upd_ne hne]; exact m2
    have d4 : Dj (upd G2 p (.lst xs)) (upd F d (.dT vs)) := d3.newL (by rw [upd_ne (Ne.symm hne)]; exact n4)
    rw [upd_lr m3]
    have d5 : Dj (upd (upd G2 p (.lst xs)) d (.dT vs)) F := (d4.off n2).newL n2
    have ex := (Ex.new (o := .lst xs) m1).trans (Ex.new (o := .dT vs) m3)
    refine s_ret d5 (ev_v (d := .list ((rowsOf pl wir loads ts).map fun r => .list (eNats r))) rfl (dLst (xs := xs) (by rw [upd_ne (Ne.symm hne), upd_same]) ?_)) fun v G5 e5 d5 q => k v G5 ((e1.trans e2).trans (ex.trans e5)) d5 q
    unfold rowsOf
    rw [List.map_map]
    exact dpA_ex ex _ _ hx

end
end Bf
set_option Elab.async false
set_option linter.all false
set_option maxRecDepth 100000
set_option maxHeartbeats 4000000
namespace Bf
open PySem PyProof.Rows L2
section
variable {P : Program} {w : World} {K : PySem.W.Frag} {mg : Str → Option Value} {base : Heap} {C : Addr}
theorem rowsOf_len {pl : PlanD} {wir : List (Option Nat)} {loads : Loads} {ts : Timers} : (rowsOf pl wir loads ts).length = lenOf ts := by
  unfold rowsOf
  rw [List.length_map, List.length_range]
theorem rowsOf_cnt {pl : PlanD} {wir : List (Option Nat)} {loads : Loads} {ts : Timers} {b : Nat} : ((rowsOf pl wir loads ts).map fun r => r.count b) = (List.range (lenOf ts)).map (cnt pl wir loads ts b) := by
  unfold rowsOf
  rw [List.map_map]
  exact List.map_congr_left fun n _ => by simp only [Function.comp, cnt]
theorem mul64 {q : Nat} {j : Int} (h : q ≤ 10 ^ 18) : CMul (q : Int) j := by
  have h18 : (10 : Nat) ^ 18 < 2 ^ 64 := by decide
  have h64 : (2 : Int) ^ 64 = ((2 ^ 64 : Nat) : Int) := by decide
  refine .inl ⟨by rw [h64]; omega, by rw [h64]; omega⟩
theorem count_ints {l : List Nat} {b : Nat} : (l.map fun (n : Nat) => (n : Int)).count (b : Int) = l.count b := by
  induction l with
  | nil => rfl
  | cons a r ih =>
    rw [List.map_cons, List.count_cons, List.count_cons, ih]
    congr 1
    by_cases h : a = b
    · subst h; simp
    · have : ¬ ((a : Int) = (b : Int)) := by omega
      simp [h, this]
theorem sum_ints (l : List Nat) : (l.map fun (n : Nat) => (n : Int)).sum = ((l.sum : Nat) : Int) := by
  induction l with
  | nil => rfl
  | cons a r ih => rw [List.map_cons, List.sum_cons, List.sum_cons, ih]; omega
theorem sumTo_rows {pl : PlanD} {wir : List (Option Nat)} {loads : Loads} {ts : Timers} {b n : Nat} (hts : ∀ p ∈ ts, TmOk p.2) : sumTo (cnt pl wir loads ts b) n = n / lenOf ts * ((rowsOf pl wir loads ts).map fun r => r.count b).sum + (((rowsOf pl wir loads ts).map fun r => r.count b).take (n % lenOf ts)).sum := by
  rw [rowsOf_cnt, sumTo_take _ (Nat.le_of_lt (Nat.mod_lt _ (lenOf_pos hts)))]
  exact sumTo_split fun n => cnt_mod (Nat.dvd_refl _)
theorem fd_trips_until (F : Df K mg "trips_until" st_trips_until) (T : Txf mg) (PP : PlP P w K mg base C) (D1 : FD P w K mg base 6 "check_timed" ps_check_timed (sp_check_timed K C)) (D2 : FD P w K mg base 2 "check_count" ps_check_count (sp_check_count K C)) (D3 : FD P w K mg base 8 "day_rows" ps_day_rows (sp_day_rows K C)) : FD P w K mg base 9 "trips_until" ps_trips_until (sp_trips_until K C) := by
  refine fd_S F sc_trips_until rfl (fun _ _ _ _ _ _ us hl => match us, hl with | [_, _, _, _, _], _ => rfl) fun f cdv A outer s H E hr => ⟨_, dv_trips_until T D3 D2 D1 PP hr, ?_⟩
  rintro vs Q ⟨⟨pl, wir, loads, ts⟩, n⟩ G F dj al ⟨hq, hn⟩ k
  obtain ⟨v0, v1, v2, v3, v4, rfl, p0, p1, p2, p3, p4⟩ := al5 al
  obtain ⟨hp, hw, hf, hl, ht⟩ := id hq
  have p0 : Pl K C pl v0 G := p0
  have p1 : D K (eOpts wir) v1 G := p1
  have p2 : Dk K (eLoads loads) v2 G := p2
  have p3 : Dx K (eTimers ts) v3 G := p3
  have p4 : D K (.int (n : Int)) v4 G := p4
  have hp : PlOk pl := hp
  have hl : LdOk pl loads := hl
  have ht : TsOk pl ts := ht
  have hn : n ≤ 10 ^ 18 := hn
  have hts : ∀ p ∈ ts, TmOk p.2 := fun p hp => (ht.2.2 p hp).2
  have hL := lenOf_le hts
  have hL1 := lenOf_pos hts
  have hn5 := hp.n2
  refine s_drop dj (c_check_timed (pl, wir, loads, ts) (ea_cons (ev_var rfl mo_Pl p0) mo_Pl (ea_d (ev_v rfl p1) (ea_cons (ev_var rfl mo_Dk p2) mo_Dk (ea_cons (ev_var rfl mo_Dk p3.dk) mo_Dk ea_nil)))) hq) fun _ G1 e1 d1 _ => ?_
  refine s_drop d1 (c_check_count (n, 10 ^ 18) (ea_d (ev_v rfl (p4.ex e1)) (ea_d (ev_int _) ea_nil)) hn) fun _ G2 e2 d2 _ => ?_
  have e := e1.trans e2
  refine s_set d2 (c_day_rows (pl, wir, loads, ts) (ea_cons (ev_var rfl mo_Pl (mo_Pl _ _ _ e p0)) mo_Pl (ea_d (ev_v rfl (p1.ex e)) (ea_cons (ev_var rfl mo_Dk (mo_Dk _ _ _ e p2)) mo_Dk (ea_cons (ev_var rfl mo_Dx (mo_Dx _ _ _ e p3)) mo_Dx ea_nil)))) hq) fun v5 G3 e3 d3 q5 => ?_
  have q5 : D K (.list ((rowsOf pl wir loads ts).map fun r => .list (eNats r))) v5 G3 := q5
  have hlen : ((rowsOf pl wir loads ts).map fun r => PyData.list (eNats r)).length = lenOf ts := by rw [List.length_map, rowsOf_len]
  have E3 := e.trans e3
  refine s_par (P1 := D K (.int ((n / lenOf ts : Nat) : Int))) (P2 := D K (.int ((n % lenOf ts : Nat) : Int))) d3 ?_ mo_D (fun G' e' => ?_) fun v6 v7 G4 e4 d4 q6 q7 => ?_
  · refine (ev_I (d := .int ((n : Int) / (lenOf ts : Int))) (ev_v rfl (p4.ex E3)) ((ev_lenL (ev_v rfl q5)).of (by rw [hlen])) ⟨by omega, by omega⟩ fun _ => dInt _).of ?_
    rw [Int.natCast_ediv]
  · refine (ev_mod (ev_intc (ev_v rfl ((p4.ex E3).ex e'))) ((ev_lenL (ev_v rfl (q5.ex e'))).of (by rw [hlen])) (by omega)).of ?_
    rw [mod_eq]
  refine s_new d4 fun p n1 n2 d5 => ?_
  have E4 := E3.trans e4
  refine s_for d5 (ei_range1 (ev_lenO (ev_var rfl mo_Pl (mo_Pl _ _ _ E4 p0)) rfl (by omega)) (by omega)) fun G5 e5 d5 => ⟨fun i σ G' F' => ∃ (xs : List V), F' = upd F p (.lst xs) ∧ DpAll K G' xs ((List.range i).map fun b => .int ((sumTo (cnt pl wir loads ts b) n : Nat) : Int)) ∧ ∃ o9 o10 o11, σ = [some v0, some v1, some v2, some v3, some v4, some v5, some v6, some v7, some (.ref p), o9, o10, o11],
    ⟨[], rfl, .nil, none, none, none, rfl⟩, ?_, ?_, ?_⟩
  · rintro i b x σ' G6 F' hi e6 d6 r ⟨xs, rfl, hx, o9, o10, o11, rfl⟩
    have hin : b = i := by
      rw [List.getElem?_eq_some_iff] at hi
      obtain ⟨_, hi⟩ := hi
      rw [List.getElem_range] at hi
      exact hi.symm
    subst hin
    have hlt : b < pl.rates.length := by
      have := (List.getElem?_eq_some_iff.mp hi).1
      rwa [List.length_range] at this
    have r : D K (.int (b : Int)) x G6 := r
    refine (eg_name (G := G6)) G6 (Ex.refl _) _ d6 _ fun σ2 hs2 => ?_
    subst hs2
    have e46 := (e4.trans e5).trans e6
    refine s_set d6 (Ev.l (e_lcM (xs := rowsOf pl wir loads ts) (enc := fun r => PyData.list (eNats r)) (fun row => .int ((row.count b : Nat) : Int)) (ei_list (ev_v rfl (q5.ex e46))) (by rw [rowsOf_len]; omega) (fun _ => rfl) fun row y G' hm e' ry => ?_)) fun v11 G7 e7 d7 q11 => ?_
    · have ry : D K (.list (row.map fun (n : Nat) => PyData.int (n : Int))) y G' := ry
      rw [show (row.map fun (n : Nat) => PyData.int (n : Int)) = (row.map fun (n : Nat) => (n : Int)).map PyData.int by rw [List.map_map]; rfl] at ry
      refine (ev_count (ev_v rfl ry) (ev_v rfl (r.ex e'))).of ?_
      rw [count_ints]
    · have e67 := e46.trans e7
      have hxl := dpA_len hx
      rw [List.length_map, List.length_range] at hxl
      have q11 : D K (.list (((rowsOf pl wir loads ts).map fun row => ((row.count b : Nat) : Int)).map PyData.int)) v11 G7 := by
        rw [List.map_map]
        exact q11
      have hs : ((rowsOf pl wir loads ts).map fun row => ((row.count b : Nat) : Int)) = ((rowsOf pl wir loads ts).map fun row => row.count b).map fun (n : Nat) => (n : Int) := by rw [List.map_map]; rfl
      refine s_app d7 upd_same rfl (by omega) ((ev_plusI (ev_I (d := .int (((n / lenOf ts : Nat) : Int) * (((rowsOf pl wir loads ts).map fun row => ((row.count b : Nat) : Int)).sum))) (ev_v rfl (q6.ex (e5.trans (e6.trans e7)))) (ev_sum (ev_v rfl q11)) (mul64 (Nat.le_trans (Nat.div_le_self _ _) hn)) fun _ => dInt _) (ev_sum (ns := ((rowsOf pl wir loads ts).map fun row => ((row.count b : Nat) : Int)).take (n % lenOf ts)) ((Ev.l (ev_cutL (ev_v rfl q11) eo_none (eo_some (K := K) (ev_v rfl ((q7.ex e5).ex (e6.trans e7)))))).of ?_))).of (d' := .int ((sumTo (cnt pl wir loads ts b) n : Nat) : Int)) ?_) fun v G8 e8 d8 qv => ?_
      · rw [cut_to, List.map_take]
      · rw [sumTo_rows hts, hs, ← List.map_take, sum_ints, sum_ints]
        congr 1
      · rw [upd_upd] at d8 ⊢
        refine s_nx (s_iv ((e6.trans e7).trans e8) d8 rfl ⟨_, rfl, ?_, _, _, _, rfl⟩)
        rw [List.range_succ, List.map_append]
        exact dpA_app (dpA_ex (e7.trans e8) _ _ hx) (.cons qv .nil)
  · rintro i σ' G0 G' F' e ⟨xs, rfl, hx, o⟩
    exact ⟨xs, rfl, dpA_ex e _ _ hx, o⟩
  · rintro σ' G6 F' e6 d6 ⟨xs, rfl, hx, o9, o10, o11, rfl⟩
    rw [List.length_range] at hx
    have n3 : G6 p = none := d6.n upd_same
    rw [upd_lr n3]
    have d7 : Dj (upd G6 p (.lst xs)) F := (d6.off n2).newL n2
    exact s_ret d7 (ev_tupL (ev_v rfl (dLst upd_same (dpA_ex (Ex.new n3) _ _ hx)))) fun v G7 e7 d7 q => k v G7 (((E4.trans e5).trans e6).trans ((Ex.new n3).trans e7)) d7 q
/-! ### the first day -/
theorem find_range_mod {p : Nat → Bool} {L M : Nat} (hL : 1 ≤ L) (hd : L ∣ M) (hM : 1 ≤ M) (hp : ∀ n, p n = p (n % L)) : (List.range M).find? p = (List.range L).find? p := by
  have hle : L ≤ M := Nat.le_of_dvd hM hd
  cases h : (List.range L).find? p with
  | none =>
    rw [List.find?_eq_none] at h ⊢
    intro n _
    rw [hp n]
    exact h _ (List.mem_range.mpr (Nat.mod_lt _ hL))
  | some k =>
    obtain ⟨c, rfl⟩ : ∃ c, M = L + c := ⟨M - L, by omega⟩
    rw [List.range_add, List.find?_append, h]
    rfl
theorem inV_ints {l : List Nat} {b : Nat} : inV (.int (b : Int)) (l.map fun (n : Nat) => V.int (n : Int)) = decide (0 < l.count b) := by
  have h : inV (.int (b : Int)) (l.map fun (n : Nat) => V.int (n : Int)) = true ↔ b ∈ l := by
    unfold inV
    rw [List.any_map, List.any_eq_true]
    constructor
    · rintro ⟨x, hx, h⟩
      have h : ((x : Int) == (b : Int)) = true := h
      have h : (x : Int) = (b : Int) := by simpa using h
      have : x = b := by omega
      exact this ▸ hx
    · intro h
      refine ⟨b, h, ?_⟩
      show ((b : Int) == (b : Int)) = true
      simp
  by_cases hb : b ∈ l
  · rw [h.mpr hb, decide_eq_true (List.count_pos_iff.mpr hb)]
  · have h1 : inV (.int (b : Int)) (l.map fun (n : Nat) => V.int (n : Int)) = false := by
      cases e : inV (.int (b : Int)) (l.map fun (n : Nat) => V.int (n : Int)) with
      | false => rfl
      | true => exact absurd (h.mp e) hb
    rw [h1, List.count_eq_zero.mpr hb]
    rfl
theorem find_at {p : Nat → Bool} {L i : Nat} (hi : i < L) (h : ∀ j, j < i → p j = false) (hp : p i = true) : (List.range L).find? p = some i := by
  rw [List.find?_range_eq_some]
  exact ⟨hp, List.mem_range.mpr hi, fun j hj => by rw [h j hj]; rfl⟩
theorem fd_first_day (F : Df K mg "first_day" st_first_day) (T : Txf mg) (D1 : FD P w K mg base 6 "check_timed" ps_check_timed (sp_check_timed K C)) (D2 : FD P w K mg base 3 "check_breaker" ps_check_breaker (sp_check_breaker K C)) (D3 : FD P w K mg base 8 "day_rows" ps_day_rows (sp_day_rows K C)) : FD P w K mg base 9 "first_day" ps_first_day (sp_first_day K C) := by
  refine fd_S F sc_first_day rfl (fun _ _ _ _ _ _ us hl => match us, hl with | [_, _, _, _, _], _ => rfl) fun f cdv A outer s H E hr => ⟨_, dv_first_day T D3 D2 D1 hr, ?_⟩
  rintro vs Q ⟨⟨pl, wir, loads, ts⟩, b⟩ G F dj al ⟨hq, hb⟩ k
  obtain ⟨v0, v1, v2, v3, v4, rfl, p0, p1, p2, p3, p4⟩ := al5 al
  obtain ⟨hp, hw, hf, hl, ht⟩ := id hq
  have p0 : Pl K C pl v0 G := p0
  have p1 : D K (eOpts wir) v1 G := p1
  have p2 : Dk K (eLoads loads) v2 G := p2
  have p3 : Dx K (eTimers ts) v3 G := p3
  have p4 : D K (.int (b : Int)) v4 G := p4
  have hp : PlOk pl := hp
  have ht : TsOk pl ts := ht
  have hts : ∀ p ∈ ts, TmOk p.2 := fun p hp => (ht.2.2 p hp).2
  refine s_drop dj (c_check_timed (pl, wir, loads, ts) (ea_cons (ev_var rfl mo_Pl p0) mo_Pl (ea_d (ev_v rfl p1) (ea_cons (ev_var rfl mo_Dk p2) mo_Dk (ea_cons (ev_var rfl mo_Dk p3.dk) mo_Dk ea_nil)))) hq) fun _ G1 e1 d1 _ => ?_
  refine s_drop d1 (c_check_breaker (pl, b) (ea_cons (ev_var rfl mo_Pl (mo_Pl _ _ _ e1 p0)) mo_Pl (ea_d (ev_v rfl (p4.ex e1)) ea_nil)) ⟨hp, hb⟩) fun _ G2 e2 d2 _ => ?_
  have e := e1.trans e2
  have hres : (List.range 12).find? (fun n => decide (0 < cnt pl wir loads ts b n)) = (List.range (lenOf ts)).find? fun n => decide (0 < cnt pl wir loads ts b n) := find_range_mod (lenOf_pos hts) (lenOf_dvd hts) (by decide) fun n => by rw [cnt_mod (Nat.dvd_refl _)]
  refine s_for d2 (ei_enumL (as := rowsOf pl wir loads ts) (enc := fun r => .list (eNats r)) (c_day_rows (pl, wir, loads, ts) (ea_cons (ev_var rfl mo_Pl (mo_Pl _ _ _ e p0)) mo_Pl (ea_d (ev_v rfl (p1.ex e)) (ea_cons (ev_var rfl mo_Dk (mo_Dk _ _ _ e p2)) mo_Dk (ea_cons (ev_var rfl mo_Dx (mo_Dx _ _ _ e p3)) mo_Dx ea_nil)))) hq)) fun G3 e3 d3 => ⟨fun i σ G' F' => F' = F ∧ (∀ j, j < i → decide (0 < cnt pl wir loads ts b j) = false) ∧ ∃ o5 o6, σ = [some v0, some v1, some v2, some v3, some v4, o5, o6], ⟨rfl, fun j hj => absurd hj (Nat.not_lt_zero _), none, none, rfl⟩, ?_, fun _ _ _ _ _ _ h => h, ?_⟩
  · rintro i ⟨j, row⟩ x σ' G4 F' hi e4 d4 r ⟨rfl, hno, o5, o6, rfl⟩
    obtain ⟨rfl, hrow⟩ := enum_at hi
    refine (eg_pair r) G4 (Ex.refl _) _ d4 _ fun σ2 ⟨a, c, hs2, r1, r2⟩ => ?_
    subst hs2
    have r1 : D K (.int (j : Int)) a G4 := r1
    have r2 : D K (.list (eNats row)) c G4 := r2
    have hjl : j < lenOf ts := by
      have := (List.getElem?_eq_some_iff.mp hrow).1
      rwa [rowsOf_len] at this
    have hrw : row = (dayP pl wir loads ts j).map Prod.snd := by
      unfold rowsOf at hrow
      rw [List.getElem?_map, List.getElem?_range hjl] at hrow
      exact (Option.some.inj hrow).symm
    refine s_if d4 (b := decide (0 < cnt pl wir loads ts b j)) ((et_test (ev_inL (d := .int (b : Int)) (neg := false) (ev_v rfl (p4.ex ((e.trans e3).trans e4))) (ev_v rfl r2) rfl ?_)).of ?_) (fun hb G5 e5 d5 => ?_) fun hb G5 e5 d5 => ?_
    · unfold eNats
      rw [List.all_map]
      exact List.all_eq_true.mpr fun _ _ => rfl
    · have ev : (eNats row).map vOf = row.map fun (n : Nat) => V.int (n : Int) := by unfold eNats; rw [List.map_map]; rfl
      rw [ev]
      show inV (.int (b : Int)) (row.map fun (n : Nat) => V.int (n : Int)) = _
      rw [inV_ints, hrw]
      rfl
    · refine s_ret d5 (ev_v rfl (r1.ex e5)) fun v G6 e6 d6 q => k v G6 (((e.trans e3).trans e4).trans (e5.trans e6)) d6 ?_
      show D K (eOpt ((List.range 12).find? fun n => decide (0 < cnt pl wir loads ts b n))) v G6
      rw [hres, find_at hjl hno hb]
      exact q
    · refine s_nx (s_nx (s_iv (e4.trans e5) d5 rfl ⟨rfl, fun j' hj' => ?_, _, _, rfl⟩))
      rcases Nat.lt_or_ge j' j with h | h
      · exact hno j' h
      · have : j' = j := by omega
        rw [this]
        exact hb
  · rintro σ' G4 F' e4 d4 ⟨rfl, hno, o5, o6, rfl⟩
    rw [enum_len, rowsOf_len] at hno
    refine s_ret d4 (ev_non (K := K)) fun v G5 e5 d5 q => k v G5 ((e.trans e3).trans (e4.trans e5)) d5 ?_
    show D K (eOpt ((List.range 12).find? fun n => decide (0 < cnt pl wir loads ts b n))) v G5
    rw [hres, List.find?_eq_none.mpr fun n hn => by rw [hno n (List.mem_range.mp hn)]; exact Bool.false_ne_true]
    exact q

end
end Bf
set_option Elab.async false
set_option linter.all false
set_option maxRecDepth 100000
set_option maxHeartbeats 4000000
namespace Bf
open PySem PyProof.Rows L2
section
variable {P : Program} {w : World} {K : PySem.W.Frag} {mg : Str → Option Value} {base : Heap} {C : Addr}
/-! ### Plan(..) -/
/-- a method's def that has defaults -/
structure Dmi (K : PySem.W.Frag) (x qual : Str) (st : Stmt) (dvs : List V) (g : Addr) : Prop where
  ex : ∃ fd : FuncData, FunD K x qual (defArgs st) (defBody st) (defScope st) dvs [] g fd
theorem upd_new2 {G F : Hp} {x dx : Addr} {o1 o2 o3 o4 : HO} (hne : dx ≠ x) : upd (upd (un G (upd (upd F dx o1) x o2)) dx o3) x o4 = un (upd (upd G dx o3) x o4) F := by
  funext c
  by_cases h1 : c = x
  · subst h1
    rw [upd_same, un_l upd_same]
  · rw [upd_ne h1]
    by_cases h2 : c = dx
    · subst h2
      rw [upd_same]
      exact (un_l (by rw [upd_ne h1, upd_same])).symm
    · rw [upd_ne h2]
      unfold un
      rw [upd_ne h1, upd_ne h2, upd_ne h1, upd_ne h2]
theorem s_slot {σ : St} {G F : Hp} {ta te : TE} {E : Ends} {tz : TS} {f : Str} {P : V → Hp → Prop} (dj : Dj G F) (he : Ev te σ G P) (k : ∀ v G', Ex G G' → Dj G' F → P v G' → ta σ (un G' F) (fun x H2 => ∃ a C dx p vs i, x = .ref a ∧ SlX.Slt H2 a C dx vs ∧ SlX.SCls K C ∧ SlX.Slot1 K C f p i ∧ tz E σ (SlX.slH H2 a C dx (SlX.putS i v vs)))) : tSeq (SlX.sSl K ta te f) tz E σ (un G F) := he.run dj k
theorem fr_plan {g : Addr} (F : Dmi K "__init__" "Plan.__init__" st_Plan___init__ [.str "free"] g) (T : Txf mg) (hf : PlF K C) (D1 : FD P w K mg base 3 "are_points" ps_are_points (sp_are_points K C)) (D2 : FD P w K mg base 2 "are_above" ps_are_above (sp_are_above K C)) (D3 : FD P w K mg base 2 "are_rates" ps_are_rates (sp_are_rates K C)) :
    FnR P w K mg base CX0 4 g (sp_Plan___init__ K C) := by
  obtain ⟨fd, FF⟩ := F.ex
  obtain ⟨ds, hds, hb⟩ := FF.binds1 (ps := ps_Plan___init__) 5 1 (by simp) rfl (fun T kV doc pm an cdv ct us its hu hi => match us, its, hu, hi with | [_, _, _, _, _], [_], _, _ => ⟨_, rfl, rfl⟩)
  cases hds
  refine FnR.imp (FnOk.raw (FF.ok sc_Plan___init__ (sp := sp_Plan___init__ K C) (fun vs H Q E h => h.1) fun cdv A outer s H vs Q E hr h => ?_) hb .nil) fun vs H Q E q => by rw [List.append_nil]; exact q
  obtain ⟨_, pl, x, dx, ws, G, F0, rfl, rfl, dj, gx, gdx, fx, fdx, hne, al, hp, k⟩ := h
  obtain ⟨v1, v2, v3, v4, rfl, p1, p2, p3, p4⟩ := al4 al
  have p1 : D K (eRates pl.rates) v1 G := p1
  have p1' : D K (.tuple (pl.rates.map PyData.int)) v1 G := p1
  have p2 : D K (eOpts pl.above) v2 G := p2
  have p3 : D K (ePoints pl.points) v3 G := p3
  have p4 : D K (.str pl.rule) v4 G := p4
  refine ⟨_, (dv_Plan___init__ (C := C) T D1 D2 D3 hr).nox, ?_⟩
  refine s_no dj ((et_not (et_B (c_are_rates pl (ea_d (ev_v rfl p1) ea_nil) hp))).of rfl) fun G1 e1 d1 => s_nx ?_
  refine s_no d1 ((et_not (et_B (c_are_above pl (ea_d (ev_v rfl (p2.ex e1)) (ea_d ((ev_lenT (ev_v rfl (p1'.ex e1))).of (by rw [List.length_map])) ea_nil)) hp))).of rfl) fun G2 e2 d2 => s_nx ?_
  have e12 := e1.trans e2
  refine s_no d2 ((et_not (et_B (c_are_points pl (ea_d (ev_v rfl (p3.ex e12)) ea_nil) hp))).of rfl) fun G3 e3 d3 => s_nx ?_
  have e13 := e12.trans e3
  refine s_no d3 ((et_test (ev_inT (d := .str pl.rule) (ds := (["free", "rooms"] : List Str).map PyData.str) (neg := true) (ev_v rfl (p4.ex e13)) (ev_tup (ds := [.str "free", .str "rooms"]) (ea_d (ev_str _) (ea_d (ev_str _) ea_nil)) (by simp)) rfl rfl)).of (notIn_names (l := ["free", "rooms"]) ?_)) fun G4 e4 d4 => s_nx ?_
  · rcases hp.ru with e | e <;> rw [e] <;> simp
  have e14 := e13.trans e4
  have hev := ev_tup (K := K) (σ := start nm_Plan___init__ [.ref x, v1, v2, v3, v4]) (ds := eParts pl) (ea_d (ev_v (i := 1) rfl (p1.ex e14)) (ea_d (ev_v (i := 2) rfl (p2.ex e14)) (ea_d (ev_v (i := 3) rfl (p3.ex e14)) (ea_d (ev_v (i := 4) rfl (p4.ex e14)) ea_nil)))) (by simp [eParts])
  refine s_slot d4 hev fun v G5 e5 d5 pv => ⟨_, rfl, ?_⟩
  obtain ⟨p, hs⟩ := hf.sl
  obtain ⟨q, xs, rfl, h1, h2⟩ := pv.tup
  refine ⟨x, C, dx, p, [], 0, rfl, .inl ⟨un_r d5 upd_same, rfl⟩, hf.sc, hs, ?_⟩
  have n5 : G5 x = none := d5.n upd_same
  have m5 : G5 dx = none := d5.n (by rw [upd_ne hne]; exact upd_same)
  have hb : SlX.slH (un G5 (upd (upd F0 dx (.own x)) x (.ins C dx []))) x C dx (SlX.putS 0 (.ref q) []) = un (upd (upd G5 dx (.xd [])) x (SlX.SlO x C dx [some (.ref q)])) F0 := by
    unfold SlX.slH
    rw [upd_new2 hne]
    rfl
  show Q .non _
  rw [hb]
  have ex2 : Ex G5 (upd (upd G5 dx (.xd [])) x (SlX.SlO x C dx [some (.ref q)])) := (Ex.new m5).trans (Ex.new (by rw [upd_ne (Ne.symm hne)]; exact n5))
  have d6 : Dj (upd (upd G5 dx (.xd [])) x (SlX.SlO x C dx [some (.ref q)])) F0 := by
    have z : Dj G5 F0 := fun a u h => by
      have z := d5 a u h
      by_cases h1 : a = x
      · subst h1; exact fx
      · rw [upd_ne h1] at z
        by_cases h2 : a = dx
        · subst h2; exact fdx
        · rwa [upd_ne h2] at z
    exact (z.newL fdx).newL fx
  exact k _ ((e14.trans e5).trans ex2) d6 ⟨x, dx, q, rfl, upd_same, by rw [upd_ne hne, upd_same], (show D K (.tuple (eParts pl)) (.ref q) G5 from Dp.tup h1 h2).ex ex2, hp.p2⟩
theorem ev_makeP {σ : St} {G : Hp} {tt : TA} {pl : PlanD} (hp : PlOk pl) (ha : EvA tt σ G ((eParts pl).map (D K))) : Ev (StX.tMakeR C (sp_Plan___init__ K C) E0 tt) σ G (Pl K C pl) := fun G1 a F dj Q q =>
  ha G1 a F dj _ fun vs G2 e2 d2 al x dx hx hdx hne => by
    obtain ⟨n1, n2⟩ := un_no hx
    obtain ⟨m1, m2⟩ := un_no hdx
    have hl : vs.length = 4 := by
      obtain ⟨_, _, _, _, rfl, _⟩ := al4 al
      rfl
    refine ⟨by rw [List.length_cons, hl], pl, x, dx, vs, G2, F, rfl, ?_, ?_, n1, m1, n2, m2, hne, al, hp, fun G' e' d' p' => ⟨rfl, q _ G' (e2.trans e') d' p'⟩⟩
    · rw [upd_r m1, upd_r n1]
    · exact (d2.newR m1).newR n1
theorem fd__law_plan (F : Df K mg "_law_plan" st__law_plan) (T : Txf mg) (MM : MkX P w K mg base C 4 "Plan" (sp_Plan___init__ K C)) : FD P w K mg base 6 "_law_plan" ps__law_plan (sp__law_plan K C) := by
  refine fd_S F sc__law_plan rfl (fun _ _ _ _ _ _ us hl => match us, hl with | [_], _ => rfl) fun f cdv A outer s H E hr => ⟨_, dv__law_plan T MM hr, ?_⟩
  rintro vs Q ⟨pl, rest⟩ G F dj al hp k
  obtain ⟨v0, rfl, p0⟩ := al1 al
  have p0 : D K (.tuple ([eRates pl.rates, eOpts pl.above, ePoints pl.points, .str pl.rule] ++ rest)) v0 G := p0
  exact s_ret dj (ev_makeP hp (ea_d (ev_ixT (i := 0) (ev_v rfl p0) (ev_int 0) rfl) (ea_d (ev_ixT (i := 1) (ev_v rfl p0) (ev_int 1) rfl) (ea_d (ev_ixT (i := 2) (ev_v rfl p0) (ev_int 2) rfl) (ea_d (ev_ixT (i := 3) (ev_v rfl p0) (ev_int 3) rfl) ea_nil))))) k

end
end Bf
set_option Elab.async false
set_option linter.all false
set_option maxRecDepth 100000
set_option maxHeartbeats 4000000
namespace Bf
open PySem PyProof.Rows L2
section
variable {P : Program} {w : World} {K : PySem.W.Frag} {mg : Str → Option Value} {base : Heap} {C : Addr}
/-! ### comprehensions whose elements change the frame -/
theorem lc_st {S α : Type} {wi : TI} {te : TE} {σ : St} {G : Hp} {xs : List α} {R : α → V → Hp → Prop} {vs : List Nat} {j : Nat} {Q : VK} (Φ : S → Hp) (Iv : Nat → S → List V → Hp → Prop) (s0 : S) (h : EvI wi σ G xs R) (dj : Dj G (Φ s0)) (hw : ∀ x, wipe ((wipe σ vs).set j (some x)) vs = wipe σ vs) (i0 : ∀ G', Ex G G' → Iv 0 s0 [] G')
    (imo : ∀ i s ys G G', Ex G G' → Iv i s ys G → Iv i s ys G') (il : ∀ i s ys G, Iv i s ys G → ys.length ≤ 1000)
    (hstep : ∀ i a x G' s ys Dl, xs[i]? = some a → Ex G G' → R a x G' → Iv i s ys G' → G' Dl = none → Φ s Dl = none → Dj G' (upd (Φ s) Dl (.lst ys)) → ∀ Qk : VK, (∀ y G'' s', Ex G' G'' → Φ s' Dl = none → Dj G'' (upd (Φ s') Dl (.lst ys)) → Iv (i + 1) s' (ys ++ [y]) G'' → Qk y (un G'' (upd (Φ s') Dl (.lst ys)))) → te ((wipe σ vs).set j (some x)) (un G' (upd (Φ s) Dl (.lst ys))) Qk)
    (hq : ∀ Dl G' s' ys, Ex G G' → G' Dl = none → Φ s' Dl = none → Dj G' (upd (Φ s') Dl (.lst ys)) → Iv xs.length s' ys G' → Q (.ref Dl) (un G' (upd (Φ s') Dl (.lst ys)))) : tLc wi (gName j) tYes te vs σ (un G (Φ s0)) Q :=
  h G (Ex.refl _) (Φ s0) dj _ fun J G1 e1 d1 Sr => fun Dl hD => by
    obtain ⟨n1, n2⟩ := un_no hD
    rw [upd_r n1]
    refine ⟨fun i mm H => mm = xs.length - i ∧ i ≤ xs.length ∧ ∃ G' s ys, H = un G' (upd (Φ s) Dl (.lst ys)) ∧ Ex G1 G' ∧ Φ s Dl = none ∧ Dj G' (upd (Φ s) Dl (.lst ys)) ∧ Iv i s ys G', ⟨xs.length, by simp, Nat.zero_le _, G1, s0, [], rfl, Ex.refl _, n2, d1.newR n1, i0 _ e1⟩, ?_⟩
    rintro i mm H ⟨rfl, hi, G', s, ys, rfl, e', f', d', iv⟩
    by_cases hlt : i < xs.length
    · have ha := List.getElem?_eq_getElem hlt
      refine .inr ⟨Sr.goes i G' _ hlt e' d', fun H' => ∃ G' s ys, H' = un G' (upd (Φ s) Dl (.lst ys)) ∧ Ex G1 G' ∧ Φ s Dl = none ∧ Dj G' (upd (Φ s) Dl (.lst ys)) ∧ Iv (i + 1) s ys G', fun H' p => ⟨xs.length - (i + 1), by omega, rfl, hlt, p⟩, fun x H' y => ?_⟩
      obtain ⟨G2, e2, d2, rfl, rr⟩ := Sr.yields i _ G' _ x H' ha e' d' y
      refine ⟨hw x, ?_⟩
      show te _ _ _
      refine hstep i _ x G2 s ys Dl ha ((e1.trans e').trans e2) rr (imo _ _ _ _ _ e2 iv) (d2.n upd_same) f' d2 _ fun y G3 s' e3 f3 d3 iv3 => ⟨ys, un_r d3 upd_same, small1000 (il _ _ _ _ iv), ?_⟩
      have n3 : G3 Dl = none := d3.n upd_same
      rw [upd_r n3, upd_upd]
      have d4 : Dj G3 (upd (Φ s') Dl (.lst (ys ++ [y]))) := by
        have z := d3.newR (o := .lst (ys ++ [y])) n3
        rwa [upd_upd] at z
      exact ⟨G3, s', ys ++ [y], rfl, (e'.trans e2).trans e3, f3, d4, iv3⟩
    · have e : i = xs.length := by omega
      subst e
      exact .inl ⟨Sr.stops G' _ e' d', hq Dl G' s ys (e1.trans e') (d'.n upd_same) f' d' iv⟩
/-! ### the kinds of days -/
theorem nodup_sub_len {α : Type} [DecidableEq α] : ∀ (l D : List α), l.Nodup → (∀ x ∈ l, x ∈ D) → l.length ≤ D.length
  | [], _, _, _ => Nat.zero_le _
  | x :: l, D, hn, hs => by
    obtain ⟨h1, h2⟩ := List.nodup_cons.mp hn
    have hx : x ∈ D := hs x List.mem_cons_self
    have ih := nodup_sub_len l (D.erase x) h2 fun y hy => (List.mem_erase_of_ne (fun e : y = x => h1 (by rw [← e]; exact hy))).2 (hs y (List.mem_cons_of_mem _ hy))
    have e := List.length_erase_of_mem hx
    have hp : 0 < D.length := List.length_pos_of_mem hx
    rw [List.length_cons]
    omega
theorem rows_of {G : Hp} : ∀ {xs : List V} {kss : List (List Str)}, DpAll K G xs (kss.map eNames) → ∃ ks : List (Addr × List Str), xs = ks.map (fun p => V.ref p.1) ∧ kss = ks.map Prod.snd ∧ ∀ p ∈ ks, SqT K G p.1 (p.2.map V.str)
  | _, [], h => by cases h; exact ⟨[], rfl, rfl, fun p hp => nomatch hp⟩
  | _, k :: kss, h => by
    cases h with
    | cons h1 h2 =>
      obtain ⟨ks, e1, e2, e3⟩ := rows_of h2
      obtain ⟨a, ys, rfl, g1, g2⟩ := D.tup (show D K (.tuple (k.map PyData.str)) _ G from h1)
      have g := dpA_strs g2
      subst g
      refine ⟨(a, k) :: ks, by rw [List.map_cons, ← e1], by rw [List.map_cons, ← e2], fun p hp => ?_⟩
      rcases List.mem_cons.mp hp with rfl | hp
      · exact g1
      · exact e3 p hp
theorem dpA_rows {G : Hp} : ∀ (L : List (Addr × List Str)), (∀ p ∈ L, SqT K G p.1 (p.2.map V.str)) → DpAll K G (L.map fun p => V.ref p.1) ((L.map Prod.snd).map eNames)
  | [], _ => .nil
  | p :: L, h => .cons (.tup (h p List.mem_cons_self) (strs_dpA _)) (dpA_rows L fun q hq => h q (List.mem_cons_of_mem _ hq))
/-- sorted(set(xs)), xs a list of tuples of texts: the same tuples, each once -/
theorem ev_kinds {σ : St} {G : Hp} {ta : TE} {kss : List (List Str)} (ha : Ev ta σ G (D K (.list (kss.map eNames)))) (hl : kss.length < 64) : Ev (tCB (rSortSet K P w) (tCons (tCB (rSetT K P w) (tCons ta tNil)) tNil)) σ G (fun v G' => ∃ kss' : List (List Str), (∀ ks, ks ∈ kss' ↔ ks ∈ kss) ∧ kss'.length ≤ kss.length ∧ D K (.list (kss'.map eNames)) v G') := fun G1 a F dj Q q =>
  ha G1 a F dj _ fun x G2 e2 d2 p => by
    obtain ⟨b, xs, rfl, h1, h2⟩ := p.lst
    obtain ⟨ks, rfl, rfl, h3⟩ := rows_of h2
    refine ⟨b, ks, rfl, sqL_ex ex_un h1, fun p hp => sqT_ex ex_un (h3 p hp), by rwa [List.length_map] at hl, fun s L hs hL1 hL2 => ?_⟩
    obtain ⟨n1, n2⟩ := un_no hs
    rw [upd_l]
    have h4 : ∀ p ∈ L, SqT K (upd G2 s (TSetO P w s L)) p.1 (p.2.map V.str) := fun p hp => sqT_ex (Ex.new n1) (h3 p (hL1 p hp))
    refine ⟨s, L, rfl, un_l upd_same, fun p hp => sqT_ex ex_un (h4 p hp), fun L' r hp hnd hr => ?_⟩
    obtain ⟨n3, n4⟩ := un_no hr
    rw [upd_l]
    refine q _ _ ((e2.trans (Ex.new n1)).trans (Ex.new n3)) ((d2.newL n2).newL n4) ⟨L'.map Prod.snd, fun k => ⟨fun h => ?_, fun h => ?_⟩, ?_, dLst upd_same (dpA_rows L' fun p hp' => sqT_ex (Ex.new n3) (h4 p (hp.mem_iff.mp hp')))⟩
    · obtain ⟨p, hp', rfl⟩ := List.mem_map.mp h
      exact List.mem_map.mpr ⟨p, hL1 p (hp.mem_iff.mp hp'), rfl⟩
    · obtain ⟨p, hp', rfl⟩ := List.mem_map.mp h
      exact (hp.map Prod.snd).mem_iff.mpr (hL2 p hp')
    · refine nodup_sub_len _ _ hnd fun k h => ?_
      obtain ⟨p, hp', rfl⟩ := List.mem_map.mp h
      exact List.mem_map.mpr ⟨p, hL1 p (hp.mem_iff.mp hp'), rfl⟩
/-! ### Quiet(..) -/
def quF (F : Hp) (x dx CQ : Addr) (fs : List (Str × V)) : Hp := upd (upd F dx (.own x)) x (.ins CQ dx fs)
theorem quF_put {F : Hp} {x dx CQ : Addr} {fs fs' : List (Str × V)} : upd (quF F x dx CQ fs) x (.ins CQ dx fs') = quF F x dx CQ fs' := upd_upd
theorem s_fldQ {σ : St} {G F : Hp} {te : TE} {E : Ends} {tz : TS} {f : Str} {Pr : V → Hp → Prop} {x dx CQ : Addr} {fs : List (Str × V)} (dj : Dj G (quF F x dx CQ fs)) (hc : Cls K CQ) (hn : NoAttr K CQ f) (hl : fs.length < 1000) (h0 : σ[0]? = some (some (.ref x))) (he : Ev te σ G Pr)
    (k : ∀ v G', Ex G G' → Dj G' (quF F x dx CQ (putF f v fs)) → Pr v G' → tz E σ (un G' (quF F x dx CQ (putF f v fs)))) : tSeq (sFld K (tVar 0) te f) tz E σ (un G (quF F x dx CQ fs)) :=
  he.run dj fun v G' e d p => ⟨_, h0, x, CQ, dx, fs, rfl, un_r d upd_same, hc, hn, hl, by
    have n1 : G' x = none := d.n upd_same
    show tz E σ (upd (un G' (quF F x dx CQ fs)) x (.ins CQ dx (putF f v fs)))
    rw [upd_r n1, quF_put]
    refine k v G' e ?_ p
    have z := d.newR (o := .ins CQ dx (putF f v fs)) n1
    rwa [quF_put] at z⟩
theorem putF_le {f : Str} {v : V} {fs : List (Str × V)} {n m : Nat} (h : fs.length ≤ n) (hm : n + 1 = m) : (putF f v fs).length ≤ m := Nat.le_trans (length_putF f v fs) (by omega)
theorem eNames_map {kss : List (List Str)} : kss.map eNames = kss.map fun ks => PyData.tuple (ks.map PyData.str) := rfl
theorem fr_quiet {CQ g : Addr} (F : Dm K "__init__" "Quiet.__init__" st_Quiet___init__ g) (T : Txf mg) (hQ : QuC K CQ) (D1 : FD P w K mg base 1 "length_of" ps_length_of (sp_length_of K C)) (D2 : FD P w K mg base 1 "names_on" ps_names_on (sp_names_on K C)) : FnR P w K mg base CX0 2 g (sp_Quiet___init__ K C CQ) := by
  refine fr_raw (fr_ok F sc_Quiet___init__ (fun _ _ _ _ _ _ us hl => match us, hl with | [_, _, _, _, _], _ => rfl) (fun vs H Q E h => h.1) fun cdv A outer s H vs Q E hr h => ?_)
  obtain ⟨_, ⟨pl, wir, loads, ts⟩, x, dx, ws, G, F0, rfl, rfl, dj, gx, gdx, fx, fdx, hne, al, hq, k⟩ := h
  obtain ⟨v1, v2, v3, v4, rfl, p1, p2, p3, p4⟩ := al4 al
  obtain ⟨hp, hw, hf, hl, ht⟩ := id hq
  have p1 : Pl K C pl v1 G := p1
  have p2 : D K (eOpts wir) v2 G := p2
  have p3 : Dk K (eLoads loads) v3 G := p3
  have p4 : Dx K (eTimers ts) v4 G := p4
  have hl : LdOk pl loads := hl
  have ht : TsOk pl ts := ht
  have hts : ∀ p ∈ ts, TmOk p.2 := fun p hp => (ht.2.2 p hp).2
  have hL := lenOf_le hts
  refine ⟨_, dv_Quiet___init__ (C := C) T D2 D1 hr, ?_⟩
  refine s_fldQ (F := F0) (fs := []) dj hQ.c hQ.n1 (by simp) rfl (ev_var rfl mo_Pl p1) fun w1 G1 e1 d1 q1 => ?_
  refine s_fldQ d1 hQ.c hQ.n2 (Nat.lt_of_le_of_lt (putF_le (n := 0) (Nat.le_refl _) rfl) (by decide)) rfl (ev_v rfl (p2.ex e1)) fun w2 G2 e2 d2 q2 => ?_
  have E2 := e1.trans e2
  refine s_fldQ d2 hQ.c hQ.n3 (Nat.lt_of_le_of_lt (putF_le (putF_le (n := 0) (Nat.le_refl _) rfl) rfl) (by decide)) rfl (ev_var rfl mo_Dk (mo_Dk _ _ _ E2 p3)) fun w3 G3 e3 d3 q3 => ?_
  have E3 := E2.trans e3
  refine s_set d3 (ev_lstRg (n := lenOf ts) (c_length_of ts (ea_cons (ev_var rfl mo_Dx (mo_Dx _ _ _ E3 p4)) mo_Dx ea_nil) ⟨ht.2.1, hts⟩) (by omega)) fun v5 G4 e4 d4 q5 => ?_
  have E4 := E3.trans e4
  refine s_fldQ d4 hQ.c hQ.n4 (Nat.lt_of_le_of_lt (putF_le (putF_le (putF_le (n := 0) (Nat.le_refl _) rfl) rfl) rfl) (by decide)) rfl (ev_kinds (kss := (List.range (lenOf ts)).map (namesOn loads ts)) (Ev.l ((e_lcM (xs := List.range (lenOf ts)) (enc := fun (i : Nat) => PyData.int (i : Nat)) (fun n => eNames (namesOn loads ts n)) (ei_list (ev_v rfl q5.d)) (by rw [List.length_range]; omega) (fun _ => rfl) fun n y G' hm e ry => ?_).imp fun v G' _ q => by rw [List.map_map]; exact q)) (by rw [List.length_map, List.length_range]; omega)) fun w4 G5 e5 d5 ⟨kss, hk1, hk2, hk3⟩ => ?_
  · exact (c_names_on (loads, ts, n) (ea_cons (ev_var rfl mo_Dk (mo_Dk _ _ _ (E4.trans e) p3)) mo_Dk (ea_cons (ev_var rfl mo_Dk (mo_Dx _ _ _ (E4.trans e) p4).dk) mo_Dk (ea_d (ev_v rfl ry) ea_nil))) ⟨hl.1, hl.2.1, hts⟩).imp fun v G' _ q => Tx.d q
  have E5 := E4.trans e5
  -- the last: an empty dict
  intro kd hkd
  obtain ⟨m1, m2⟩ := un_no hkd
  generalize hfs : putF "kinds" w4 (putF "loads" w3 (putF "wiring" w2 (putF "plan" w1 []))) = fs at *
  have hkx : kd ≠ x := fun z => by subst z; rw [show quF F0 kd dx CQ fs kd = some (.ins CQ dx fs) from upd_same] at m2; cases m2
  have hkdx : kd ≠ dx := fun z => by subst z; rw [show quF F0 x kd CQ fs kd = some (.own x) by unfold quF; rw [upd_ne hkx, upd_same]] at m2; cases m2
  have fkd : F0 kd = none := by
    have z : quF F0 x dx CQ fs kd = F0 kd := by unfold quF; rw [upd_ne hkx, upd_ne hkdx]
    rwa [z] at m2
  have n5 : G5 x = none := d5.n upd_same
  have m5 : G5 dx = none := d5.n (by unfold quF; rw [upd_ne hne]; exact upd_same)
  rw [upd_r m1]
  have d6 := d5.newR (o := .dT []) m1
  refine ⟨_, rfl, x, CQ, dx, fs, rfl, un_r d6 (by rw [upd_ne (Ne.symm hkx)]; exact upd_same), hQ.c, hQ.n5, by rw [← hfs]; exact Nat.lt_of_le_of_lt (putF_le (putF_le (putF_le (putF_le (n := 0) (Nat.le_refl _) rfl) rfl) rfl) rfl) (by decide), ?_⟩
  show Q .non _
  have hheap : upd (un G5 (upd (quF F0 x dx CQ fs) kd (.dT []))) x (.ins CQ dx (putF "known" (.ref kd) fs)) = un (upd (upd G5 dx (.own x)) x (.ins CQ dx (putF "known" (.ref kd) fs))) (upd F0 kd (.dT [])) := by
    funext c
    by_cases h1 : c = x
    · subst h1; rw [upd_same, un_l upd_same]
    · rw [upd_ne h1]
      by_cases h2 : c = dx
      · subst h2
        rw [un_n m5, upd_ne (Ne.symm hkdx)]
        unfold quF
        rw [upd_ne h1, upd_same]
        exact (un_l (by rw [upd_ne h1, upd_same])).symm
      · unfold un quF
        rw [upd_ne h1, upd_ne h2]
        by_cases h3 : c = kd
        · subst h3; rw [upd_same, upd_same]
        · rw [upd_ne h3, upd_ne h1, upd_ne h2, upd_ne h3]
  rw [hheap]
  have ex6 : Ex G5 (upd (upd G5 dx (.own x)) x (.ins CQ dx (putF "known" (.ref kd) fs))) := (Ex.new m5).trans (Ex.new (by rw [upd_ne (Ne.symm hne)]; exact n5))
  have d7 : Dj (upd (upd G5 dx (.own x)) x (.ins CQ dx (putF "known" (.ref kd) fs))) (upd F0 kd (.dT [])) := by
    have z : Dj G5 (upd F0 kd (.dT [])) := fun a u h => by
      have z := d6 a u h
      by_cases h3 : a = kd
      · subst h3; rw [m1] at h; cases h
      · rw [upd_ne h3] at z ⊢
        unfold quF at z
        by_cases h1 : a = x
        · subst h1; exact fx
        · rw [upd_ne h1] at z
          by_cases h2 : a = dx
          · subst h2; exact fdx
          · rwa [upd_ne h2] at z
    exact (z.newL (by rw [upd_ne (Ne.symm hkdx)]; exact fdx)).newL (by rw [upd_ne (Ne.symm hkx)]; exact fx)
  have e25 : Ex G1 G5 := ((e2.trans e3).trans e4).trans e5
  have lk : ∀ y, (putF "known" (.ref kd) fs).lookup y = if y = "known" then some (.ref kd) else if y = "kinds" then some w4 else if y = "loads" then some w3 else if y = "wiring" then some w2 else if y = "plan" then some w1 else none := fun y => by
    rw [lookup_putF, ← hfs, lookup_putF, lookup_putF, lookup_putF, lookup_putF]
    rfl
  refine k kd _ (E5.trans ex6) fkd d7 ⟨x, dx, putF "known" (.ref kd) fs, w1, w2, w3, w4, kss, rfl, upd_same, by rw [upd_ne hne, upd_same], ?_, ?_, ?_, ?_, ?_, ?_, ?_, mo_Pl _ _ _ (e25.trans ex6) q1, (q2.ex ((e3.trans e4).trans e5)).ex ex6, mo_Dk _ _ _ ((e4.trans e5).trans ex6) q3, hk3.ex ex6, ?_⟩
  · rw [lk, if_neg (by decide), if_neg (by decide), if_neg (by decide), if_neg (by decide), if_pos rfl]
  · rw [lk, if_neg (by decide), if_neg (by decide), if_neg (by decide), if_pos rfl]
  · rw [lk, if_neg (by decide), if_neg (by decide), if_pos rfl]
  · rw [lk, if_neg (by decide), if_pos rfl]
  · rw [lk, if_pos rfl]
  · rw [lk, if_neg (by decide), if_neg (by decide), if_neg (by decide), if_neg (by decide), if_neg (by decide)]
  · rw [lk, if_neg (by decide), if_neg (by decide), if_neg (by decide), if_neg (by decide), if_neg (by decide)]
  · refine ⟨fun ks h => ?_, fun n => (hk1 _).mpr (List.mem_map.mpr ⟨n % lenOf ts, List.mem_range.mpr (Nat.mod_lt _ (lenOf_pos hts)), ?_⟩), ?_⟩
    · obtain ⟨n, _, rfl⟩ := List.mem_map.mp ((hk1 _).mp h)
      exact ⟨n, rfl⟩
    · exact (namesOn_mod (Nat.dvd_refl _)).symm
    · rw [List.length_map, List.length_range] at hk2
      omega

end
end Bf
set_option Elab.async false
set_option linter.all false
set_option maxRecDepth 100000
set_option maxHeartbeats 4000000
namespace Bf
open PySem PyProof.Rows L2
section
variable {P : Program} {w : World} {K : PySem.W.Frag} {mg : Str → Option Value} {base : Heap} {C : Addr}
/-! ### Quiet.does_run -/
theorem ev_fldQ {σ : St} {G : Hp} {j : Nat} {f : Str} {Pr : V → Hp → Prop} {x dx CQ : Addr} {fs : List (Str × V)} {v : V} (h0 : σ[j]? = some (some (.ref x))) (hx : G x = some (.ins CQ dx fs)) (hc : Cls K CQ) (hn : NoAttr K CQ f) (hf : fs.lookup f = some v) (m : Mo Pr) (p : Pr v G) : Ev (tFld K (tVar j) f) σ G Pr := fun G1 a F dj Q q => ⟨_, h0, x, CQ, dx, fs, v, rfl, un_l (a _ _ hx), hc, hn, hf, q v G1 (Ex.refl _) dj (m _ _ _ a p)⟩
theorem eL_ns {ns : List Str} {g : Str → Int} : (eLoads (ns.map fun n => (n, g n))).map Prod.fst = ns := by
  unfold eLoads
  rw [List.map_map, List.map_map]
  exact List.map_id ns
theorem fr_quiet_does_run {CQ g : Addr} (F : Dm K "does_run" "Quiet.does_run" st_Quiet_does_run g) (T : Txf mg) (hQ : QuC K CQ) (D1 : FD P w K mg base 7 "does_run_running" ps_does_run (sp_does_run K C)) : FnR P w K mg base CX0 8 g (sp_Quiet_does_run K C CQ) := by
  refine fr_raw (fr_ok F sc_Quiet_does_run (fun _ _ _ _ _ _ us hl => match us, hl with | [_, _], _ => rfl) (fun vs H Q E h => h.1) fun cdv A outer s H vs Q E hr h => ?_)
  obtain ⟨_, a, ns, kd, kvs, G, F0, rfl, dj, fkd, al, hq, hk, hl, k⟩ := h
  obtain ⟨v0, v1, rfl, p0, p1⟩ := al2 al
  refine ⟨_, dv_Quiet_does_run (C := C) T D1 hr, ?_⟩
  obtain ⟨x, dx, fs, pv, wv, lv, kv, kss, rfl, h2, h3, f1, f2, f3, f4, f5, f6, f7, g1, g2, g3, g4, g5⟩ := p0
  have p1 : Dk K (eLoads (ns.map fun n => (n, loadOf a.2.2.1 n))) v1 G := p1
  refine s_set dj (ev_tupDk (ev_var rfl mo_Dk p1)) fun v2 G1 e1 d1 q2 => ?_
  rw [eL_ns] at q2
  have hF : (upd F0 kd (.dT kvs)) kd = some (.dT kvs) := upd_same
  have own : ∀ (kvs' : List (List Key × V)) (σ : St) (G' : Hp), σ[0]? = some (some (.ref x)) → Ex G G' → EvF (tFld K (tVar 0) "known") σ G' (upd F0 kd (.dT kvs')) (fun v _ => v = .ref kd) := fun kvs' σ G' h0 e => Ev.f (ev_fldQ h0 (e _ _ h2) hQ.c hQ.n5 f5 (fun _ _ _ _ h => h) rfl)
  have nm : ∀ (kvs' : List (List Key × V)) (σ : St) (G' : Hp), σ[2]? = some (some v2) → Ex G1 G' → EvF (tVar 2) σ G' (upd F0 kd (.dT kvs')) (Tx K (ns.map PyData.str)) := fun kvs' σ G' h0 e => Ev.f (ev_var h0 mo_Tx (mo_Tx _ _ _ e q2))
  refine s_ifNewT d1 hF (nm _ _ _ rfl (Ex.refl _)) (fun G' e' => own _ _ _ rfl (e1.trans e')) (fun hnone G2 e2 d2 => ?_) fun v hv G2 e2 d2 => ?_
  · have E2 := e1.trans e2
    have hval : ∀ p ∈ ns.map (fun n => (n, loadOf a.2.2.1 n)), (0 : Int) ≤ p.2 := fun p hp => by
      obtain ⟨n, _, rfl⟩ := List.mem_map.mp hp
      exact loadOf_ge hq.2.2.2.1 n
    refine s_dputT d2 hF (by omega) (Ev.f (c_does_run (a.1, a.2.1, ns.map fun n => (n, loadOf a.2.2.1 n)) (ea_cons (ev_fldQ rfl (E2 _ _ h2) hQ.c hQ.n1 f1 mo_Pl (mo_Pl _ _ _ E2 g1)) mo_Pl (ea_d (ev_fldQ rfl (E2 _ _ h2) hQ.c hQ.n2 f2 mo_D (g2.ex E2)) (ea_cons (ev_var rfl mo_Dk (mo_Dk _ _ _ E2 p1)) mo_Dk ea_nil))) ⟨hq.1, hq.2.1, hval⟩)) mo_D (fun G' e' => own _ _ _ rfl (E2.trans e')) (fun G' e' => nm _ _ _ rfl (e2.trans e')) fun v G3 e3 d3 qv => ?_
    have qv : v = .bl (noTrip a ns) := D.bl qv
    subst qv
    rw [upd_upd] at d3 ⊢
    have hk' : KInv a (putK kvs (kT ns) (.bl (noTrip a ns))) := fun ks v h => by
      rw [valV_put] at h
      by_cases e : kT ks = kT ns
      · rw [if_pos e] at h
        rw [kT_inj e]
        exact (Option.some.inj h).symm
      · rw [if_neg e] at h
        exact hk ks v h
    refine s_nx ?_
    refine (ef_dgetT (w := .bl (noTrip a ns)) upd_same (own _ _ _ rfl (E2.trans e3)) (fun G' e' => nm _ _ _ rfl ((e2.trans e3).trans e')) (by rw [valV_put, if_pos rfl])) G3 (Ex.refl _) d3 _ fun v G4 e4 d4 ev => ?_
    subst ev
    exact k G4 _ ((E2.trans e3).trans e4) d4 hk' (length_putK _ _ _)
  · have E2 := e1.trans e2
    refine s_nx ?_
    refine (ef_dgetT hF (own _ _ _ rfl E2) (fun G' e' => nm _ _ _ rfl (e2.trans e')) hv) G2 (Ex.refl _) d2 _ fun v' G4 e4 d4 ev => ?_
    subst ev
    rw [hk _ _ hv]
    exact k G4 kvs (E2.trans e4) d4 hk (Nat.le_succ _)
/-! ### when nothing ever trips -/
theorem trips_keep {pl : PlanD} {wir : List (Option Nat)} {loads : Loads} {st : List Bool} (h : (trips pl wir st loads).2 = []) : (trips pl wir st loads).1 = st := by
  unfold trips at h ⊢
  cases hn : pl.rates.length with
  | zero => rfl
  | succ n =>
    rw [hn] at h
    unfold tripF at h ⊢
    cases e : over pl wir st loads with
    | nil => rfl
    | cons i is => rw [e] at h; cases h
theorem hs_ne {pl : PlanD} {wir : List (Option Nat)} {ld : Nat → Loads} : ∀ (l : List Nat) (a : List Bool × List (Nat × Nat)), a.2 ≠ [] → (l.foldl (hourStep pl wir ld) a).2 ≠ []
  | [], _, h => h
  | x :: l, a, h => hs_ne l _ fun e => h (List.append_eq_nil_iff.mp e).1
theorem hs_all {pl : PlanD} {wir : List (Option Nat)} {ld : Nat → Loads} : ∀ l : List Nat, (l.foldl (hourStep pl wir ld) (allOn pl, [])).2.isEmpty = l.all fun h => (trips pl wir (allOn pl) (ld h)).2.isEmpty
  | [] => rfl
  | x :: l => by
    rw [List.foldl_cons, List.all_cons]
    cases e : (trips pl wir (allOn pl) (ld x)).2 with
    | nil =>
      have z : hourStep pl wir ld (allOn pl, []) x = (allOn pl, []) := by
        unfold hourStep
        simp only [e, trips_keep e]
        rfl
      rw [z, hs_all l]
      rfl
    | cons b bs =>
      have z : (l.foldl (hourStep pl wir ld) (hourStep pl wir ld (allOn pl, []) x)).2 ≠ [] := hs_ne l _ (by
        unfold hourStep
        simp only [e]
        exact fun q => by simp at q)
      have z2 : (l.foldl (hourStep pl wir ld) (hourStep pl wir ld (allOn pl, []) x)).2.isEmpty = false := by
        cases q : (l.foldl (hourStep pl wir ld) (hourStep pl wir ld (allOn pl, []) x)).2 with
        | nil => exact absurd q z
        | cons _ _ => rfl
      rw [z2]
      rfl
theorem day_quiet {a : Q0} {n : Nat} : (dayP a.1 a.2.1 a.2.2.1 a.2.2.2 n).isEmpty = quietKs a a.2.2.2 (namesOn a.2.2.1 a.2.2.2 n) := hs_all _
theorem quiet_kinds {a : Q0} {kss : List (List Str)} (hts : ∀ p ∈ a.2.2.2, TmOk p.2) (h : Kinds a kss) : quietB a = kss.all (quietKs a a.2.2.2) := by
  rw [Bool.eq_iff_iff]
  unfold quietB
  rw [List.all_eq_true, List.all_eq_true]
  constructor
  · intro g ks hks
    obtain ⟨n, rfl⟩ := h.1 ks hks
    rw [namesOn_mod (lenOf_dvd hts), ← day_quiet]
    exact g _ (List.mem_range.mpr (Nat.mod_lt _ (by decide)))
  · intro g n hn
    rw [day_quiet]
    exact g _ (h.2.1 n)
/-! ### Quiet.is_quiet -/
theorem ev_cp {σ : St} {G : Hp} {d : PyData} {v : V} (h : D K d v G) : Ev (tC v) σ G (D K d) := fun G1 a F dj Q q => q v G1 (Ex.refl _) dj (h.ex a)
theorem s_ifAll {te : TE} {ty tw tz : TS} {E : Ends} {σ : St} {H : Hp} (h : te σ H (fun v H1 => tSeq (tIfS (tNot (tB (tCB (rAll K) (tCons (tC v) tNil)))) ty tw) tz E σ H1)) : tSeq (tIfS (tNot (tB (tCB (rAll K) (tCons te tNil)))) ty tw) tz E σ H := h
theorem fr_quiet_is_quiet {CQ g : Addr} (F : Dm K "is_quiet" "Quiet.is_quiet" st_Quiet_is_quiet g) (T : Txf mg) (hQ : QuC K CQ) (D1 : FD P w K mg base 1 "loads_at" ps_loads_at (sp_loads_at K C)) (M1 : MeX P w K mg base CQ 8 "does_run" (sp_Quiet_does_run K C CQ)) : FnR P w K mg base CX0 9 g (sp_Quiet_is_quiet K C CQ) := by
  refine fr_raw (fr_ok F sc_Quiet_is_quiet (fun _ _ _ _ _ _ us hl => match us, hl with | [_, _], _ => rfl) (fun vs H Q E h => h.1) fun cdv A outer s H vs Q E hr h => ?_)
  obtain ⟨_, a, kd, G, F0, rfl, dj, fkd, al, hq, k⟩ := h
  obtain ⟨v0, v1, rfl, p0, p1⟩ := al2 al
  refine ⟨_, dv_Quiet_is_quiet (C := C) T D1 M1 hr, ?_⟩
  have p0' := p0
  obtain ⟨x, dx, fs, pv, wv, lv, kv, kss, rfl, h2, h3, f1, f2, f3, f4, f5, f6, f7, g1, g2, g3, g4, g5⟩ := p0
  have p1 : Dk K (eTimers a.2.2.2) v1 G := p1
  have hts : ∀ p ∈ a.2.2.2, TmOk p.2 := fun p hp => (hq.2.2.2.2.2.2 p hp).2
  have hld : LdOk a.1 a.2.2.1 := hq.2.2.2.1
  rw [quiet_kinds hts g5] at k
  refine s_for dj (ei_list (as := kss) (enc := eNames) (ev_fldQ rfl h2 hQ.c hQ.n4 f4 mo_D g4)) fun G1 e1 d1 => ⟨fun i σ G' F' => ∃ kvs : List (List Key × V), F' = upd F0 kd (.dT kvs) ∧ KInv a kvs ∧ kvs.length ≤ 24 * i ∧ (kss.take i).all (quietKs a a.2.2.2) = true ∧ ∃ o2 o3, σ = [some (.ref x), some v1, o2, o3], ⟨[], rfl, (fun ks v h => nomatch h), Nat.le_refl _, rfl, none, none, rfl⟩, ?_, fun _ _ _ _ _ _ h => h, ?_⟩
  · rintro i ks y σ' G2 F' hi e2 d2 r ⟨kvs, rfl, hk, hkl, hal, o2, o3, rfl⟩
    have r : D K (eNames ks) y G2 := r
    have E2 := e1.trans e2
    have hil : i < kss.length := (List.getElem?_eq_some_iff.mp hi).1
    have hi12 := g5.2.2
    obtain ⟨nn, hks⟩ := g5.1 ks (List.mem_of_getElem? hi)
    obtain ⟨z1, z2, z3⟩ := namesOn_ok (ts := a.2.2.2) (n := nn) hld.1 hld.2.1
    rw [← hks] at z1 z2 z3
    refine (eg_name (G := G2)) G2 (Ex.refl _) _ d2 _ fun σ2 hs2 => ?_
    subst hs2
    refine s_ifAll ?_
    refine lc_st (S := List (List Key × V)) (fun kvs => upd F0 kd (.dT kvs)) (fun j s ys G => KInv a s ∧ s.length ≤ kvs.length + j ∧ j ≤ 24 ∧ ys = (List.range j).map fun h => V.bl (noTrip a (ks.filter (hourOn a.2.2.2 h)))) kvs (xs := List.range 24) (R := fun (k : Nat) => D K (.int (k : Nat))) (ei_range1 (n := 24) (ev_int 24) (by omega)) d2 (fun _ => rfl) (fun G' e => ⟨hk, Nat.le_refl _, Nat.zero_le _, rfl⟩) (fun _ _ _ _ _ _ h => h) (fun j s ys G h => by obtain ⟨_, _, h3, rfl⟩ := h; rw [List.length_map, List.length_range]; omega) ?_ ?_
    · rintro j hh xv G3 s ys Dl hj e3 r3 ⟨hs, hsl, hj24, rfl⟩ n3 m3 d3 Qk cont
      have r3 : D K (.int (hh : Int)) xv G3 := r3
      have hjlt : j < 24 := by
        have := (List.getElem?_eq_some_iff.mp hj).1
        rwa [List.length_range] at this
      have hjh : hh = j := by
        rw [List.getElem?_range hjlt] at hj
        exact (Option.some.inj hj).symm
      subst hjh
      have hne : kd ≠ Dl := fun e => by subst e; rw [upd_same] at m3; cases m3
      have fDl : F0 Dl = none := by rw [upd_ne (Ne.symm hne)] at m3; exact m3
      rw [upd_comm hne] at d3 ⊢
      have E3 := E2.trans e3
      refine ⟨_, rfl, x, dx, fs, rfl, un_l (E3 _ _ h2), f6, ?_⟩
      refine (c_loads_at (a.2.2.1, a.2.2.2, ks, hh) (ea_cons (ev_fldQ rfl (E3 _ _ h2) hQ.c hQ.n3 f3 mo_Dk (mo_Dk _ _ _ E3 g3)) mo_Dk (ea_cons (ev_var rfl mo_Dk (mo_Dk _ _ _ E3 p1)) mo_Dk (ea_d (ev_v rfl (r.ex e3)) (ea_d (ev_v rfl r3) ea_nil)))) ⟨z1, z2, z3⟩).run d3 fun v G4 e4 d4 qv => ?_
      have qv : Dx K (eLoads (loadsAt a.2.2.1 a.2.2.2 ks hh)) v G4 := qv
      refine ⟨rfl, a, ks.filter (hourOn a.2.2.2 hh), kd, s, G4, _, rfl, d4, by rw [upd_ne hne]; exact fkd, .cons (mo_Qt _ _ _ (E3.trans e4) p0') (.cons qv.dk .nil), hq, hs, by omega, fun G5 s' e5 d5 hs' hsl' => ?_⟩
      rw [← upd_comm hne] at d5 ⊢
      refine cont _ G5 s' (e4.trans e5) (by rw [upd_ne (Ne.symm hne)]; exact fDl) d5 ⟨hs', by omega, by omega, ?_⟩
      rw [List.range_succ, List.map_append]
      rfl
    · rintro Dl G3 s ys e3 n3 m3 d3 ⟨hs, hsl, _, rfl⟩
      rw [List.length_range] at hsl
      have hne : kd ≠ Dl := fun e => by subst e; rw [upd_same] at m3; cases m3
      rw [List.length_range] at d3 ⊢
      rw [upd_lr n3]
      have d4 : Dj (upd G3 Dl (.lst ((List.range 24).map fun h => V.bl (noTrip a (ks.filter (hourOn a.2.2.2 h)))))) (upd F0 kd (.dT s)) := (d3.off m3).newL m3
      have hl : D K (.list (((List.range 24).map fun h => noTrip a (ks.filter (hourOn a.2.2.2 h))).map PyData.bool)) (.ref Dl) (upd G3 Dl (.lst ((List.range 24).map fun h => V.bl (noTrip a (ks.filter (hourOn a.2.2.2 h)))))) := by
        refine dLst upd_same ?_
        have : ∀ (G : Hp) (l : List Bool), DpAll K G (l.map V.bl) (l.map PyData.bool) := fun G l => by
          induction l with
          | nil => exact .nil
          | cons b l ih => exact .cons (dBl b) ih
        have z := this (upd G3 Dl (.lst ((List.range 24).map fun h => V.bl (noTrip a (ks.filter (hourOn a.2.2.2 h)))))) ((List.range 24).map fun h => noTrip a (ks.filter (hourOn a.2.2.2 h)))
        rw [List.map_map] at z
        exact z
      refine s_if d4 (b := !quietKs a a.2.2.2 ks) ((et_not (et_B (ev_all (ev_cp (K := K) hl)))).of ?_) (fun hb G5 e5 d5 => ?_) fun hb G5 e5 d5 => ?_
      · unfold quietKs
        rw [List.all_map]
        rfl
      · refine s_ret d5 (ev_bl (K := K) false) fun v G6 e6 d6 q => ?_
        obtain rfl := D.bl q
        have z : kss.all (quietKs a a.2.2.2) = false := by
          rw [List.all_eq_false]
          exact ⟨ks, List.mem_of_getElem? hi, by simpa using hb⟩
        rw [z] at k
        exact k G6 s ((E2.trans e3).trans ((Ex.new n3).trans (e5.trans e6))) d6
      · refine s_nx (s_nx (s_iv ((e2.trans e3).trans ((Ex.new n3).trans e5)) d5 rfl ⟨s, rfl, hs, by omega, ?_, _, _, rfl⟩))
        rw [take_snoc hi, List.all_append, hal]
        simp at hb
        simp [hb]
  · rintro σ' G2 F' e2 d2 ⟨kvs, rfl, hk, hkl, hal, o2, o3, rfl⟩
    rw [List.take_length] at hal
    refine s_ret d2 (ev_bl (K := K) true) fun v G6 e6 d6 q => ?_
    obtain rfl := D.bl q
    rw [hal] at k
    exact k G6 kvs ((e1.trans e2).trans e6) d6

end
end Bf
set_option Elab.async false
set_option linter.all false
set_option maxRecDepth 100000
set_option maxHeartbeats 4000000
namespace Bf
open PySem PyProof.Rows L2
section
variable {P : Program} {w : World} {K : PySem.W.Frag} {mg : Str → Option Value} {base : Heap} {C : Addr}
/-! ### shifts -/
theorem fd_all_shifts (F : Df K mg "all_shifts" st_all_shifts) (T : Txf mg) : FD P w K mg base 1 "all_shifts" ps_all_shifts (sp_all_shifts K C) := by
  refine fd_S F sc_all_shifts rfl (fun _ _ _ _ _ _ us hl => match us, hl with | [_, _], _ => rfl) fun f cdv A outer s H E hr => ⟨_, dv_all_shifts (C := C) T hr, ?_⟩
  rintro vs Q ts G F dj al ⟨h1, h2, h3⟩ k
  obtain ⟨v0, v1, rfl, p0, p1⟩ := al2 al
  have p0 : Dk K (eTimers ts) v0 G := p0
  have p1 : D K (.int ((0 : Nat) : Int)) v1 G := p1
  have hlen : (eTimers ts).length < 64 := by unfold eTimers; rw [List.length_map]; omega
  refine s_new dj fun p n1 n2 d1 => ?_
  refine s_forE d1 (ev_sortDk (ev_var rfl mo_Dk p0) hlen) fun v G1 e1 d1 ⟨ys, hperm, _, hx⟩ => ?_
  rw [eTimers_keys] at hperm
  have hyl : ys.length ≤ 5 := by
    have := hperm.length_eq
    rw [List.length_map] at this
    omega
  refine s_for d1 (ei_list (as := ys) (enc := PyData.str) (ev_cd hx.d)) fun G2 e2 d2 => ⟨fun i σ G' F' => ∃ xs : List V, F' = upd F p (.lst xs) ∧ xs.length ≤ 24 * i ∧ ∃ o3 o4 o5 o6 o7 o8, σ = [some v0, some v1, some (.ref p), o3, o4, o5, o6, o7, o8, none, none, none, none], ⟨[], rfl, Nat.le_refl _, none, none, none, none, none, none, rfl⟩, ?_, fun _ _ _ _ _ _ h => h, ?_⟩
  · rintro i nm x σ' G3 F' hi e3 d3 r ⟨xs, rfl, hxl, o3, o4, o5, o6, o7, o8, rfl⟩
    have e := (e1.trans e2).trans e3
    have r : D K (.str nm) x G3 := r
    have hil : i < ys.length := (List.getElem?_eq_some_iff.mp hi).1
    have hm : nm ∈ ts.map Prod.fst := hperm.mem_iff.mp (List.mem_of_getElem? hi)
    obtain ⟨c, hc⟩ := getK_some hm
    have hin := h3 _ (getK_mem hc)
    obtain ⟨t1, t2, t3, t4, t5⟩ := hin
    have t1 : c.b < 24 := t1
    have t2 : c.b < c.e := t2
    have t3 : c.e ≤ 24 := t3
    refine (eg_name (G := G3)) G3 (Ex.refl _) _ d3 _ fun σ2 hs2 => ?_
    subst hs2
    refine s_tgt d3 (ev_dget (s := nm) (d := eTm c) (ev_var rfl mo_Dk (mo_Dk _ _ _ e p0)) (ev_v rfl r) (by rw [getK_timers, hc]; rfl)) fun v4 G4 e4 d4 pv => ?_
    refine (eg_triple (show D K (.tuple [.int (c.b : Int), .int (c.e : Int), .int (c.v : Int)]) v4 G4 from pv)) G4 (Ex.refl _) _ d4 _ fun σ3 ⟨a1, a2, a3, hs3, r1, r2, r3⟩ => ?_
    subst hs3
    refine s_set d4 (e_lcN (K := K) (xs := List.range (24 - c.e + c.b + 1)) (enc := fun (n : Nat) => PyData.int (n : Nat)) (fun h => !decide (h = c.b)) (fun (n : Nat) => PyData.int (n : Nat)) (ei_range1 ((ev_plusI (ev_plusI (ev_sub (ev_int 24) (ev_v rfl r2)) (ev_v rfl r1)) (ev_int 1)).of (by congr 1; omega)) (by omega)) (by rw [List.length_range]; omega) (fun _ => rfl) (fun h y G' hm e' ry => (et_test (ev_neD (d := .int (h : Int)) (e := .int (c.b : Int)) (ev_v rfl ry) (ev_v rfl (r1.ex e')) rfl rfl)).of ?_) fun h y G' hm e' ry hf => ev_v rfl ry) fun v8 G5 e5 d5 q8 => ?_
    · congr 1
      show ((h : Int) == (c.b : Int)) = decide (h = c.b)
      rw [Bool.beq_eq_decide_eq]
      exact decide_eq_decide.mpr (by omega)
    · have hol : ((List.range (24 - c.e + c.b + 1)).filter fun h => !decide (h = c.b)).length ≤ 24 := by
        have := List.length_filter_le (fun h => !decide (h = c.b)) (List.range (24 - c.e + c.b + 1))
        rw [List.length_range] at this
        omega
      refine s_ext (K := K) (ds := ((List.range (24 - c.e + c.b + 1)).filter fun h => !decide (h = c.b)).map fun h => PyData.tuple [.str nm, .int (h : Nat)]) d5 upd_same rfl (by rw [List.length_map]; omega) (e_lcM (xs := (List.range (24 - c.e + c.b + 1)).filter fun h => !decide (h = c.b)) (enc := fun (n : Nat) => PyData.int (n : Nat)) (fun h => PyData.tuple [.str nm, .int (h : Nat)]) (ei_list (ev_v rfl q8.d)) (by omega) (fun _ => rfl) fun h y G' hm e' ry => ev_tup (ds := [.str nm, .int (h : Nat)]) (ea_d (ev_v rfl (((r.ex e4).ex e5).ex e')) (ea_d (ev_v rfl ry) ea_nil)) (by simp)) fun zs G6 e6 d6 hz => ?_
      rw [upd_upd] at d6 ⊢
      have hzl := dpA_len hz
      rw [List.length_map] at hzl
      refine s_nx (s_iv ((e3.trans e4).trans (e5.trans e6)) d6 rfl ⟨_, rfl, ?_, _, _, _, _, _, _, rfl⟩)
      rw [List.length_append]
      omega
  · rintro σ' G3 F' e3 d3 ⟨xs, rfl, hxl, o3, o4, o5, o6, o7, o8, rfl⟩
    have n3 : G3 p = none := d3.n upd_same
    rw [upd_lr n3]
    have d4 : Dj (upd G3 p (.lst xs)) F := (d3.off n2).newL n2
    have E3 : Ex G (upd G3 p (.lst xs)) := (e1.trans (e2.trans e3)).trans (Ex.new n3)
    refine s_set d4 (ev_lst (K := K) (ds := [.list []]) (ea_d (ev_lst (K := K) (ds := []) ea_nil (by simp)) ea_nil) (by simp)) fun v9 G4 e4 d4 q9 => ?_
    refine s_for d4 (ei_range1 (n := 0) (ev_v rfl ((p1.ex E3).ex e4)) (by omega)) fun G5 e5 d5 => ⟨fun i σ G' F' => F' = F ∧ ∃ o10, σ = [some v0, some v1, some (.ref p), o3, o4, o5, o6, o7, o8, some v9, o10, none, none], ⟨rfl, _, rfl⟩, fun i a x σ' G' F' hi => ?_, fun _ _ _ _ _ _ h => h, ?_⟩
    · simp at hi
    · rintro σ' G6 F' e6 d6 ⟨rfl, o10, rfl⟩
      refine s_ret d6 (ev_v rfl ((q9.ex e5).ex e6)) fun v G7 e7 d7 q => k v G7 (((E3.trans e4).trans (e5.trans e6)).trans e7) d7 q
theorem fd_shifted (F : Df K mg "shifted" st_shifted) (T : Txf mg) : FD P w K mg base 1 "shifted" ps_shifted (sp_shifted K C) := by
  refine fd_S F sc_shifted rfl (fun _ _ _ _ _ _ us hl => match us, hl with | [_, _], _ => rfl) fun f cdv A outer s H E hr => ⟨_, dv_shifted (C := C) T hr, ?_⟩
  rintro vs Q ts G F dj al h1 k
  obtain ⟨v0, v1, rfl, p0, p1⟩ := al2 al
  have p0 : Dk K (eTimers ts) v0 G := p0
  have p1 : D K (.list (([] : List Nat).map fun (n : Nat) => PyData.int n)) v1 G := p1
  refine s_set dj (ev_dictDk (ev_var rfl mo_Dk p0)) fun v2 G1 e1 d1 q2 => ?_
  refine s_for d1 (ei_list (ev_v rfl (p1.ex e1))) fun G2 e2 d2 => ⟨fun i σ G' F' => F' = F ∧ ∃ o3 o4 o5 o6 o7, σ = [some v0, some v1, some v2, o3, o4, o5, o6, o7], ⟨rfl, none, none, none, none, none, rfl⟩, fun i a x σ' G' F' hi => ?_, fun _ _ _ _ _ _ h => h, ?_⟩
  · simp at hi
  · rintro σ' G6 F' e6 d6 ⟨rfl, o3, o4, o5, o6, o7, rfl⟩
    refine s_ret d6 (ev_var rfl mo_Dk (mo_Dx _ _ _ (e2.trans e6) q2).dk) fun v G7 e7 d7 q => k v G7 ((e1.trans (e2.trans e6)).trans e7) d7 q
/-! ### fewest_shifts -/
theorem s_makeQ {σ : St} {G F : Hp} {E : Ends} {tz : TS} {CQ : Addr} {tt : TA} {i : Nat} {a : Q0} (dj : Dj G F) (hq : q0ok a) (ha : EvA tt σ G [Pl K C a.1, D K (eOpts a.2.1), Dk K (eLoads a.2.2.1), Dx K (eTimers a.2.2.2)])
    (k : ∀ x kd G', Ex G G' → F kd = none → Dj G' (upd F kd (.dT [])) → Qt K C CQ a kd (.ref x) G' → tz E (σ.set i (some (.ref x))) (un G' (upd F kd (.dT [])))) : tSeq (tAsg (StX.tMakeR CQ (sp_Quiet___init__ K C CQ) E0 tt) (gName i)) tz E σ (un G F) :=
  ha G (Ex.refl _) F dj _ fun vs G2 e2 d2 al x dx hx hdx hne => by
    obtain ⟨n1, n2⟩ := un_no hx
    obtain ⟨m1, m2⟩ := un_no hdx
    have hl : vs.length = 4 := by
      obtain ⟨_, _, _, _, rfl, _⟩ := al4 al
      rfl
    refine ⟨by rw [List.length_cons, hl], a, x, dx, vs, G2, F, rfl, ?_, ?_, n1, m1, n2, m2, hne, al, hq, fun kd G' e' f' d' p' => ⟨rfl, k x kd G' (e2.trans e') f' d' p'⟩⟩
    · rw [upd_r m1, upd_r n1]
    · exact (d2.newR m1).newR n1
theorem fd_fewest_shifts {CQ : Addr} (F : Df K mg "fewest_shifts" st_fewest_shifts) (T : Txf mg) (D1 : FD P w K mg base 1 "all_shifts" ps_all_shifts (sp_all_shifts K C)) (D2 : FD P w K mg base 1 "shifted" ps_shifted (sp_shifted K C)) (D3 : FD P w K mg base 2 "check_count" ps_check_count (sp_check_count K C)) (D4 : FD P w K mg base 6 "check_timed" ps_check_timed (sp_check_timed K C)) (MQ : MkX P w K mg base CQ 2 "Quiet" (sp_Quiet___init__ K C CQ)) (M1 : MeX P w K mg base CQ 9 "is_quiet" (sp_Quiet_is_quiet K C CQ)) : FD P w K mg base 10 "fewest_shifts" ps_fewest_shifts (sp_fewest_shifts K C) := by
  refine fd_S F sc_fewest_shifts rfl (fun _ _ _ _ _ _ us hl => match us, hl with | [_, _, _, _, _], _ => rfl) fun f cdv A outer s H E hr => ⟨_, dv_fewest_shifts T D1 D2 D3 D4 MQ M1 hr, ?_⟩
  rintro vs Q a G F dj al hq k
  obtain ⟨v0, v1, v2, v3, v4, rfl, p0, p1, p2, p3, p4⟩ := al5 al
  have p0 : Pl K C a.1 v0 G := p0
  have p1 : D K (eOpts a.2.1) v1 G := p1
  have p2 : Dk K (eLoads a.2.2.1) v2 G := p2
  have p3 : Dx K (eTimers a.2.2.2) v3 G := p3
  have p4 : D K (.int ((0 : Nat) : Int)) v4 G := p4
  have ht : TsOk a.1 a.2.2.2 := hq.2.2.2.2
  have hts : ∀ p ∈ a.2.2.2, TmOk p.2 := fun p hp => (ht.2.2 p hp).2
  refine s_drop dj (c_check_timed a (ea_cons (ev_var rfl mo_Pl p0) mo_Pl (ea_d (ev_v rfl p1) (ea_cons (ev_var rfl mo_Dk p2) mo_Dk (ea_cons (ev_var rfl mo_Dk p3.dk) mo_Dk ea_nil)))) hq) fun _ G1 e1 d1 _ => ?_
  refine s_drop d1 (c_check_count (0, 2) (ea_d (ev_v rfl (p4.ex e1)) (ea_d (ev_int 2) ea_nil)) (show 0 ≤ 2 by decide)) fun _ G2 e2 d2 _ => ?_
  have e := e1.trans e2
  refine s_makeQ (a := a) d2 hq (ea_cons (ev_var rfl mo_Pl (mo_Pl _ _ _ e p0)) mo_Pl (ea_d (ev_v rfl (p1.ex e)) (ea_cons (ev_var rfl mo_Dk (mo_Dk _ _ _ e p2)) mo_Dk (ea_cons (ev_var rfl mo_Dx (mo_Dx _ _ _ e p3)) mo_Dx ea_nil)))) fun x kd G3 e3 f3 d3 hQt => ?_
  have E3 := e.trans e3
  have back : ∀ {G' : Hp} {kvs : List (List Key × V)} {v : V}, Dj G' (upd F kd (.dT kvs)) → Ex G G' → D K (if quietB a then .list [] else .none) v G' → Q v (un G' (upd F kd (.dT kvs))) := fun {G' kvs v} d e q => by
    have n3 : G' kd = none := d.n upd_same
    rw [upd_lr n3]
    exact k v _ (e.trans (Ex.new n3)) ((d.off f3).newL f3) (q.ex (Ex.new n3))
  refine s_for d3 (ei_range1 (n := 1) ((ev_plusI (ev_v rfl (p4.ex E3)) (ev_int 1)).of rfl) (by omega)) fun G4 e4 d4 => ⟨fun i σ G' F' => (if i = 0 then F' = upd F kd (.dT []) else quietB a = false ∧ ∃ kvs, F' = upd F kd (.dT kvs)) ∧ ∃ o6 o7, σ = [some v0, some v1, some v2, some v3, some v4, some (.ref x), o6, o7], ⟨by rw [if_pos rfl], none, none, rfl⟩, ?_, fun _ _ _ _ _ _ h => h, ?_⟩
  · rintro i n y σ' G5 F' hi e5 d5 r ⟨hF, o6, o7, rfl⟩
    have hi0 : i = 0 := by
      have := (List.getElem?_eq_some_iff.mp hi).1
      rw [List.length_range] at this
      omega
    subst hi0
    have hn : n = 0 := by simp at hi; exact hi.symm
    subst hn
    rw [if_pos rfl] at hF
    subst hF
    have r : D K (.int ((0 : Nat) : Int)) y G5 := r
    have E5 := E3.trans (e4.trans e5)
    refine (eg_name (G := G5)) G5 (Ex.refl _) _ d5 _ fun σ2 hs2 => ?_
    subst hs2
    refine s_for d5 (ei_list (as := [()]) (enc := fun _ => PyData.list []) (c_all_shifts a.2.2.2 (ea_cons (ev_var rfl mo_Dk (mo_Dx _ _ _ E5 p3).dk) mo_Dk (ea_d (ev_v rfl r) ea_nil)) ⟨ht.2.1, ht.1, hts⟩)) fun G6 e6 d6 => ⟨fun i σ G' F' => (if i = 0 then F' = upd F kd (.dT []) else quietB a = false ∧ ∃ kvs, F' = upd F kd (.dT kvs)) ∧ ∃ o7, σ = [some v0, some v1, some v2, some v3, some v4, some (.ref x), some y, o7], ⟨by rw [if_pos rfl], _, rfl⟩, ?_, fun _ _ _ _ _ _ h => h, ?_⟩
    · rintro i n z σ' G7 F' hi e7 d7 r7 ⟨hF, o7, rfl⟩
      have hi0 : i = 0 := by
        have := (List.getElem?_eq_some_iff.mp hi).1
        simp at this
        omega
      subst hi0
      rw [if_pos rfl] at hF
      subst hF
      have r7 : D K (.list []) z G7 := r7
      have E7 := E5.trans (e6.trans e7)
      have hQ7 := mo_Qt _ _ _ ((e4.trans e5).trans (e6.trans e7)) hQt
      refine (eg_name (G := G7)) G7 (Ex.refl _) _ d7 _ fun σ2 hs2 => ?_
      subst hs2
      have hQ7' := hQ7
      obtain ⟨x', dx, fs, pv, wv, lv, kv, kss, hx', g2, g3, f1, f2, f3', f4, f5, f6, f7, _⟩ := hQ7'
      cases hx'
      refine ⟨_, rfl, x, dx, fs, rfl, un_l g2, f7, ?_⟩
      refine (c_shifted a.2.2.2 (ea_cons (ev_var rfl mo_Dk (mo_Dx _ _ _ E7 p3).dk) mo_Dk (ea_d (ev_v rfl r7) ea_nil)) ht.2.1).run d7 fun v G8 e8 d8 qv => ?_
      refine ⟨rfl, a, kd, G8, F, rfl, d8, f3, .cons (mo_Qt _ _ _ e8 hQ7) (.cons qv .nil), hq, fun G9 kvs' e9 d9 => ⟨quietB a, rfl, ?_⟩⟩
      generalize hb : quietB a = b at *
      cases b with
      | true => 
        refine s_ret d9 (ev_v rfl ((r7.ex e8).ex e9)) fun v G10 e10 d10 q => back d10 ((E7.trans e8).trans (e9.trans e10)) ?_
        rw [if_pos rfl]
        exact q
      | false => exact s_nx (s_nx (s_iv ((e7.trans e8).trans e9) d9 rfl ⟨by rw [if_neg (Nat.succ_ne_zero 0)]; exact ⟨rfl, _, rfl⟩, _, rfl⟩))
    · rintro σ' G7 F' e7 d7 ⟨hF, o7, rfl⟩
      rw [if_neg (show ¬ ([()] : List Unit).length = 0 by simp)] at hF
      obtain ⟨hb, kvs, rfl⟩ := hF
      exact s_nx (s_iv ((e5.trans e6).trans e7) d7 rfl ⟨by rw [if_neg (Nat.succ_ne_zero 0)]; exact ⟨hb, _, rfl⟩, _, _, rfl⟩)
  · rintro σ' G5 F' e5 d5 ⟨hF, o6, o7, rfl⟩
    rw [if_neg (show ¬ (List.range 1).length = 0 by simp)] at hF
    obtain ⟨hb, kvs, rfl⟩ := hF
    refine s_ret d5 (ev_non (K := K)) fun v G10 e10 d10 q => back d10 ((E3.trans e4).trans (e5.trans e10)) ?_
    rw [hb]
    exact q

end
end Bf
set_option Elab.async false
set_option linter.all false
set_option maxRecDepth 100000
set_option maxHeartbeats 4000000
namespace Bf
open PySem PyProof.Rows L2
section
variable {P : Program} {w : World} {K : PySem.W.Frag} {mg : Str → Option Value} {base : Heap} {C : Addr}
/-! ### the row: read as data, written as one's own -/
def rm (H : Hp) (r : Addr) : Hp := fun a => if a = r then none else H a
theorem row_back {G G2 F : Hp} {r : Addr} {o : HO} (d2 : Dj G2 F) (e : Ex (upd G r o) G2) (fr : F r = none) (gr : G r = none) : Ex G (rm G2 r) ∧ Dj (rm G2 r) (upd F r o) ∧ ∀ o', upd (un G2 F) r o' = un (rm G2 r) (upd F r o') := by
  refine ⟨fun a u h => ?_, fun a u h => ?_, fun o' => ?_⟩
  · have hne : a ≠ r := ne_of_none h gr
    unfold rm
    rw [if_neg hne]
    exact e a u (by rw [upd_ne hne]; exact h)
  · unfold rm at h
    by_cases q : a = r
    · rw [if_pos q] at h; cases h
    · rw [if_neg q] at h
      rw [upd_ne q]
      exact d2 a u h
  · funext a
    by_cases q : a = r
    · subst q
      rw [upd_same, un_n (by unfold rm; rw [if_pos rfl]), upd_same]
    · rw [upd_ne q]
      unfold un rm
      rw [if_neg q, upd_ne q]
theorem row_un {G2 F : Hp} {r : Addr} {o : HO} (h : G2 r = some o) : upd (un G2 F) r o = un G2 F := upd_id (un_l h)
section
variable {σ : St} {G F : Hp} {te ta tb : TE} {t : L2.TT} {E : Ends} {tz ty tw : TS} {r : Addr} {o : HO}
theorem r_run {i : Int} (dj : Dj G (upd F r o)) (fr : F r = none) (he : Ev te σ (upd G r o) (D K (.int i))) (Q : VK) (k : ∀ G', Ex G G' → Dj G' (upd F r o) → Q (.int i) (un G' (upd F r o))) : te σ (un G (upd F r o)) Q := by
  have gr : G r = none := dj.n upd_same
  rw [upd_lr gr]
  refine he.run ((dj.off fr).newL fr) fun v G2 e2 d2 p => ?_
  obtain rfl := p.int
  obtain ⟨b1, b2, b3⟩ := row_back d2 e2 fr gr
  rw [← row_un (F := F) (e2 _ _ upd_same), b3]
  exact k _ b1 b2
theorem s_setR {i : Int} {j : Nat} (dj : Dj G (upd F r o)) (fr : F r = none) (he : Ev te σ (upd G r o) (D K (.int i))) (k : ∀ G', Ex G G' → Dj G' (upd F r o) → tz E (σ.set j (some (.int i))) (un G' (upd F r o))) : tSeq (tAsg te (gName j)) tz E σ (un G (upd F r o)) := r_run dj fr he _ k
theorem s_retR {i : Int} (dj : Dj G (upd F r o)) (fr : F r = none) (he : Ev te σ (upd G r o) (D K (.int i))) (k : ∀ G', Ex G G' → Dj G' (upd F r o) → E.rt (.int i) (un G' (upd F r o))) : tSeq (tRet te) tz E σ (un G (upd F r o)) := r_run dj fr he _ k
theorem s_ifR {b : Bool} (dj : Dj G (upd F r o)) (fr : F r = none) (h : EvT t σ (upd G r o) b) (h1 : b = true → ∀ G', Ex G G' → Dj G' (upd F r o) → ty { E with nx := tz E } σ (un G' (upd F r o))) (h2 : b = false → ∀ G', Ex G G' → Dj G' (upd F r o) → tw { E with nx := tz E } σ (un G' (upd F r o))) : tSeq (tIfS t ty tw) tz E σ (un G (upd F r o)) := by
  have gr : G r = none := dj.n upd_same
  rw [upd_lr gr]
  refine h.run ((dj.off fr).newL fr) fun G2 e2 d2 => ?_
  obtain ⟨b1, b2, b3⟩ := row_back d2 e2 fr gr
  rw [← row_un (F := F) (e2 _ _ upd_same), b3]
  cases b with
  | true => exact h1 rfl _ b1 b2
  | false => exact h2 rfl _ b1 b2
theorem s_rowSet {i : Int} {j : Nat} {xs : List V} (dj : Dj G (upd F r (.lst xs))) (fr : F r = none) (h0 : σ[0]? = some (some (.ref r))) (he : Ev te σ (upd G r (.lst xs)) (D K (.int i))) (hj : j < xs.length) (k : ∀ G', Ex G G' → Dj G' (upd F r (.lst (xs.set j (.int i)))) → tz E σ (un G' (upd F r (.lst (xs.set j (.int i)))))) : tSeq (tAsg te (gSub (tVar 0) (tC (.int j)) rSetL)) tz E σ (un G (upd F r (.lst xs))) := by
  refine r_run dj fr he _ fun G' e d => ⟨_, h0, r, xs, j, j, rfl, rfl, un_r d upd_same, ?_, ?_⟩
  · unfold ixN
    rw [if_pos (by omega), if_pos (by omega), Int.toNat_natCast]
  · have n1 : G' r = none := d.n upd_same
    show tz E σ (upd (un G' (upd F r (.lst xs))) r (.lst (xs.set j (.int i))))
    rw [upd_r n1, upd_upd]
    refine k G' e ?_
    have z := d.newR (o := .lst (xs.set j (.int i))) n1
    rwa [upd_upd] at z
end
/-- a def that draws -/
theorem fd_D {α : Type} {n k : Nat} {x : Str} {st : Stmt} {N ps : List Str} {pre : α → List (V → Hp → Prop)} {ok : α → Prop} {post : α → V → Hp → Prop} (F : Df K mg x st) (S : FnScope N ps (defScope st)) (hn : ps.length = n + 1)
    (hb : ∀ (kV doc pm : Value) (an : Option Addr) (cdv ct : Value) (us : List Value), us.length = ps.length → bindArgs (PySem.W.fnOf x x (defArgs st) (defBody st) (defScope st) .none kV doc pm an cdv ct) ⟨us, []⟩ = pure (ps.zip us))
    (hbody : ∀ (f : Addr) (cdv : Value) (A : Around) (outer : List Env) (s : Shared) (H : Hp) (E : XK), Room k (A.deeper (envOfC x (defScope st) s.heap.objs.size f cdv)) →
      ∃ t, PSs (cxOf CX0 P w K mg base N x (defScope st) f cdv A outer s H E).nox (defBody st) t ∧ ∀ (vs : List V) (Q : VK) (a : α) (r ap : Addr) (ns : List Int) (p s m : Int) (G F : Hp), Dj G (upd F r (rowO ap p s m)) → F r = none → Al (pre a) vs G → ok a → D K (.list (ns.map PyData.int)) (.ref ap) G → 0 ≤ p → 0 ≤ s → s < 2147483647 →
        (∀ v G' p' s' m', 0 ≤ p' → 0 ≤ s' → s' < 2147483647 → Ex G G' → Dj G' (upd F r (rowO ap p' s' m')) → post a v G' → Q v (un G' (upd F r (rowO ap p' s' m')))) → t { nx := fun _ H' => Q .non H', rt := Q } (start N (.ref r :: vs)) (un G (upd F r (rowO ap p s m)))) : FD P w K mg base (k + 1) x ps (FnD K n pre ok post) :=
  fd_ok F S hb (fun vs H Q E h => h.1.trans hn.symm) fun f cdv A outer s H vs Q E hr h => by
    obtain ⟨t, h1, h2⟩ := hbody f cdv A outer s H E hr
    obtain ⟨_, a, r, ap, ns, p, s', m, ws, G, F', rfl, rfl, dj, fr, al, hok, hd, b1, b2, b3, k⟩ := h
    exact ⟨t, h1, h2 ws Q a r ap ns p s' m G F' dj fr al hok hd b1 b2 b3 k⟩
theorem fd__law_taken (F : Df K mg "_law_taken" st__law_taken) (T : Txf mg) : FD P w K mg base 1 "_law_taken" ps__law_taken (sp__law_taken K C) := by
  refine fd_D F sc__law_taken rfl (fun _ _ _ _ _ _ us hl => match us, hl with | [_, _], _ => rfl) fun f cdv A outer s H E hr => ⟨_, dv__law_taken (C := C) T hr, ?_⟩
  rintro vs Q n r ap ns p s m G F dj fr al ⟨hn1, hn2⟩ hd hp hs1 hs2 k
  obtain ⟨v1, rfl, p1⟩ := al1 al
  have p1 : D K (.int (n : Int)) v1 G := p1
  have hn1 : 1 ≤ n := hn1
  have hn2 : n ≤ 1000 := hn2
  -- the row as data
  have row : ∀ (p s m : Int) {G' : Hp} (σ : St), σ[0]? = some (some (.ref r)) → Ex G G' → G' r = none → Ev (tVar 0) σ (upd G' r (rowO ap p s m)) (D K (.list [.list (ns.map PyData.int), .int p, .int s, .int m])) := fun p s m G' σ h0 e nr => ev_v h0 (dLst upd_same (.cons ((hd.ex e).ex (Ex.new nr)) (.cons (dInt _) (.cons (dInt _) (.cons (dInt _) .nil)))))
  have many : ∀ {G' : Hp} {o : HO} (σ : St), σ[1]? = some (some v1) → Ex G G' → G' r = none → Ev (tVar 1) σ (upd G' r o) (D K (.int (n : Int))) := fun σ h1 e nr => ev_v h1 ((p1.ex e).ex (Ex.new nr))
  have gr : G r = none := dj.n upd_same
  have post : ∀ x : Int, ∃ i : Nat, i < n ∧ V.int (x % (n : Int)) = .int (i : Int) := fun x => ⟨(x % (n : Int)).toNat, by
    have := Int.emod_lt_of_pos x (show (0 : Int) < n by omega)
    have := Int.emod_nonneg x (show (n : Int) ≠ 0 by omega)
    omega, by
    have := Int.emod_nonneg x (show (n : Int) ≠ 0 by omega)
    rw [Int.toNat_of_nonneg this]⟩
  have cd : CDiv m n := ⟨by omega, by omega⟩
  refine s_ifR dj fr (et_test (ev_gt (ev_ixL (i := 3) (row p s m _ rfl (Ex.refl _) gr) (ev_int 3) rfl) (ev_int 0))) (fun _ G1 e1 d1 => ?_) fun _ G1 e1 d1 => s_nx ?_
  · have g1 : G1 r = none := d1.n upd_same
    refine s_setR (K := K) d1 fr (ev_mod (ev_intc (ev_ixL (i := 3) (row p s m _ rfl e1 g1) (ev_int 3) rfl)) (many _ rfl e1 g1) (by omega)) fun G2 e2 d2 => ?_
    have E2 := e1.trans e2
    have g2 : G2 r = none := d2.n upd_same
    refine s_rowSet (K := K) (j := 3) d2 fr rfl (ev_I (d := .int (m / (n : Int))) (ev_ixL (i := 3) (row p s m _ rfl E2 g2) (ev_int 3) rfl) (many _ rfl E2 g2) cd fun _ => dInt _) (by show _ < 4; decide) fun G3 e3 d3 => ?_
    have E3 := E2.trans e3
    refine s_ret d3 (ev_v (K := K) (d := .int (m % (n : Int))) rfl (dInt _)) fun v G4 e4 d4 q => k v G4 p s (m / (n : Int)) hp hs1 hs2 (E3.trans e4) d4 ?_
    obtain rfl := q.int
    exact post m
  · have g1 : G1 r = none := d1.n upd_same
    refine s_rowSet (K := K) (j := 1) d1 fr rfl (ev_plusI (ev_ixL (i := 1) (row p s m _ rfl e1 g1) (ev_int 1) rfl) (ev_int 1)) (by show _ < 4; decide) fun G2 e2 d2 => ?_
    have E2 := e1.trans e2
    have d2 : Dj G2 (upd F r (rowO ap (p + 1) s m)) := d2
    show tSeq _ _ _ _ (un G2 (upd F r (rowO ap (p + 1) s m)))
    have g2 : G2 r = none := d2.n upd_same
    have hp' : 0 ≤ p + 1 := by omega
    refine s_ifR (b := decide ((ns.length : Int) < p + 1)) d2 fr (et_test ((ev_gt (ev_ixL (i := 1) (row (p + 1) s m _ rfl E2 g2) (ev_int 1) rfl) ((ev_lenL (ev_ixL (i := 0) (row (p + 1) s m _ rfl E2 g2) (ev_int 0) rfl)).of (by rw [List.length_map]))))) (fun _ G3 e3 d3 => ?_) fun hb G3 e3 d3 => s_nx ?_
    · have E3 := E2.trans e3
      have g3 : G3 r = none := d3.n upd_same
      refine s_rowSet (K := K) (j := 2) d3 fr rfl (ev_mod (ev_intc (ev_plusI (ev_I (d := .int (s * 48271)) (ev_ixL (i := 2) (row (p + 1) s m _ rfl E3 g3) (ev_int 2) rfl) (ev_int 48271) (.inr ⟨by decide, by decide⟩) fun _ => dInt _) (ev_int 11))) (ev_int 2147483647) (by decide)) (by show _ < 4; decide) fun G4 e4 d4 => ?_
      have E4 := E3.trans e4
      generalize hs' : (s * 48271 + 11) % 2147483647 = s' at *
      have d4 : Dj G4 (upd F r (rowO ap (p + 1) s' m)) := d4
      show tSeq _ _ _ _ (un G4 (upd F r (rowO ap (p + 1) s' m)))
      have g4 : G4 r = none := d4.n upd_same
      have := Int.emod_lt_of_pos (s * 48271 + 11) (show (0 : Int) < 2147483647 by decide)
      have := Int.emod_nonneg (s * 48271 + 11) (show (2147483647 : Int) ≠ 0 by decide)
      refine s_retR (K := K) d4 fr (ev_mod (ev_intc (ev_I (d := .int (s' / 7)) (ev_ixL (i := 2) (row (p + 1) s' m _ rfl E4 g4) (ev_int 2) rfl) (ev_int 7) ⟨by decide, by decide⟩ fun _ => dInt _)) (many _ rfl E4 g4) (by omega)) fun G5 e5 d5 => k _ G5 (p + 1) s' m hp' (by omega) (by omega) (E4.trans e5) d5 (post _)
    · have E3 := E2.trans e3
      have g3 : G3 r = none := d3.n upd_same
      have hb : p + 1 ≤ ns.length := by
        have := of_decide_eq_false hb
        omega
      obtain ⟨c, hc⟩ : ∃ c, ns[p.toNat]? = some c := ⟨_, List.getElem?_eq_getElem (by omega)⟩
      have hc' : (ns.map PyData.int)[p.toNat]? = some (.int c) := by rw [List.getElem?_map, hc]; rfl
      refine s_setR (K := K) d3 fr (ev_ixL (i := p.toNat) (ev_ixL (i := 0) (row (p + 1) s m _ rfl E3 g3) (ev_int 0) rfl) ((ev_sub (ev_ixL (i := 1) (row (p + 1) s m _ rfl E3 g3) (ev_int 1) rfl) (ev_int 1)).of (by congr 1; omega)) hc') fun G4 e4 d4 => ?_
      have E4 := E3.trans e4
      have g4 : G4 r = none := d4.n upd_same
      have cell : ∀ {G' : Hp} (σ : St), σ[3]? = some (some (.int c)) → Ev (tVar 3) σ G' (D K (.int c)) := fun σ h => ev_v h (dInt _)
      refine s_rowSet (K := K) (j := 2) d4 fr rfl (ev_mod (ev_intc (ev_plusI (ev_plusI (ev_I (d := .int (s * 48271)) (ev_ixL (i := 2) (row (p + 1) s m _ rfl E4 g4) (ev_int 2) rfl) (ev_int 48271) (.inr ⟨by decide, by decide⟩) fun _ => dInt _) (cell _ rfl)) (ev_int 11))) (ev_int 2147483647) (by decide)) (by show _ < 4; decide) fun G5 e5 d5 => ?_
      have E5 := E4.trans e5
      generalize hs' : (s * 48271 + c + 11) % 2147483647 = s' at *
      have d5 : Dj G5 (upd F r (rowO ap (p + 1) s' m)) := d5
      show tSeq _ _ _ _ (un G5 (upd F r (rowO ap (p + 1) s' m)))
      have g5 : G5 r = none := d5.n upd_same
      have := Int.emod_lt_of_pos (s * 48271 + c + 11) (show (0 : Int) < 2147483647 by decide)
      have := Int.emod_nonneg (s * 48271 + c + 11) (show (2147483647 : Int) ≠ 0 by decide)
      refine s_rowSet (K := K) (j := 3) (i := if decide ((10 : Int) ^ (18 : Nat) ≤ c) then c / (n : Int) else 0) d5 fr rfl (ev_if (et_test (ev_ge (cell _ rfl) (ev_I (d := .int ((10 : Int) ^ (18 : Nat))) (ev_int 10) (ev_int 18) ⟨by decide, by decide, by decide⟩ fun _ => dInt _))) (fun h => ?_) fun h => ?_) (by show _ < 4; decide) fun G6 e6 d6 => ?_
      · rw [h]
        exact ev_I (d := .int (c / (n : Int))) (cell _ rfl) (many _ rfl E5 g5) ⟨by omega, by omega⟩ fun _ => dInt _
      · rw [h]
        exact ev_int 0
      · have E6 := E5.trans e6
        generalize hm' : (if decide ((10 : Int) ^ (18 : Nat) ≤ c) then c / (n : Int) else 0) = m' at *
        have d6 : Dj G6 (upd F r (rowO ap (p + 1) s' m')) := d6
        show tSeq _ _ _ _ (un G6 (upd F r (rowO ap (p + 1) s' m')))
        have g6 : G6 r = none := d6.n upd_same
        refine s_retR (K := K) d6 fr (ev_mod (ev_intc (cell _ rfl)) (many _ rfl E6 g6) (by omega)) fun G7 e7 d7 => k _ G7 (p + 1) s' m' hp' (by omega) (by omega) (E6.trans e7) d7 (post _)

end
end Bf
set_option Elab.async false
set_option linter.all false
set_option maxRecDepth 100000
set_option maxHeartbeats 4000000
namespace Bf
open PySem PyProof.Rows L2
section
variable {P : Program} {w : World} {K : PySem.W.Frag} {mg : Str → Option Value} {base : Heap} {C : Addr}
/-! ### drawing expressions -/
def RowOk (p s : Int) : Prop := 0 ≤ p ∧ 0 ≤ s ∧ s < 2147483647
abbrev rowF (F : Hp) (r ap : Addr) (p s m : Int) : Hp := upd F r (rowO ap p s m)
def EvD (te : TE) (σ : St) (G F : Hp) (r ap : Addr) (Pr : V → Hp → Prop) : Prop := ∀ G1, Ex G G1 → ∀ p s m, RowOk p s → Dj G1 (rowF F r ap p s m) → ∀ Q : VK, (∀ v G2 p' s' m', RowOk p' s' → Ex G1 G2 → Dj G2 (rowF F r ap p' s' m') → Pr v G2 → Q v (un G2 (rowF F r ap p' s' m'))) → te σ (un G1 (rowF F r ap p s m)) Q
section
variable {σ : St} {G F : Hp} {te ta tb tc tx : TE} {t : L2.TT} {E : Ends} {tz ty tw : TS} {r ap : Addr} {Pr P1 P2 P3 : V → Hp → Prop} {ns : List Int} {p s m : Int}
theorem EvD.imp {P' : V → Hp → Prop} (h : EvD te σ G F r ap Pr) (g : ∀ v G', Ex G G' → Pr v G' → P' v G') : EvD te σ G F r ap P' := fun G1 e p s m ok d Q q => h G1 e p s m ok d Q fun v G2 p' s' m' ok' e2 d2 pv => q v G2 p' s' m' ok' e2 d2 (g v G2 (e.trans e2) pv)
theorem EvD.mono {G' : Hp} (h : EvD te σ G F r ap Pr) (e : Ex G G') : EvD te σ G' F r ap Pr := fun G1 e1 => h G1 (e.trans e1)
theorem ed_of (h : Ev te σ G Pr) : EvD te σ G F r ap Pr := fun G1 e p s m ok d Q q => h G1 e _ d Q fun v G2 e2 d2 pv => q v G2 p s m ok e2 d2 pv
theorem ed_call {α : Type} {n : Nat} {pre : α → List (V → Hp → Prop)} {ok : α → Prop} {post : α → V → Hp → Prop} {tt : TA} {j : Nat} (a : α) (fr : F r = none) (h0 : σ[j]? = some (some (.ref r))) (hd : D K (.list (ns.map PyData.int)) (.ref ap) G) (ha : EvA tt σ G (pre a)) (hn : (pre a).length = n) (h : ok a) : EvD (tCall (FnD K n pre ok post) [] E0 (tCons (tVar j) tt)) σ G F r ap (post a) := fun G1 e p s m rk d Q q =>
  ⟨_, h0, ha G1 e _ d _ fun vs G2 e2 d2 al => by
    show FnD K n pre ok post (.ref r :: vs ++ []) _ Q E0
    rw [List.append_nil]
    exact ⟨by rw [List.length_cons, al.len, hn], a, r, ap, ns, p, s, m, vs, G2, F, rfl, rfl, d2, fr, al, h, hd.ex (e.trans e2), rk.1, rk.2.1, rk.2.2, fun v G3 p' s' m' b1 b2 b3 e3 d3 pv => q v G3 p' s' m' ⟨b1, b2, b3⟩ (e2.trans e3) d3 pv⟩⟩
theorem ed_bin {rr : R2} (ha : EvD ta σ G F r ap P1) (hb : EvD tb σ G F r ap P2) (mo : Mo P1) (h : ∀ v w G', Ex G G' → P1 v G' → P2 w G' → Ev (tOp rr (tC v) (tC w)) σ G' Pr) : EvD (tOp rr ta tb) σ G F r ap Pr := fun G1 e p s m ok d Q q =>
  ha G1 e p s m ok d _ fun v G2 p2 s2 m2 ok2 e2 d2 pv => hb G2 (e.trans e2) p2 s2 m2 ok2 d2 _ fun w G3 p3 s3 m3 ok3 e3 d3 pw => h v w G3 ((e.trans e2).trans e3) (mo _ _ _ e3 pv) pw G3 (Ex.refl _) _ d3 Q fun x G4 e4 d4 px => q x G4 p3 s3 m3 ok3 ((e2.trans e3).trans e4) d4 px
theorem ed_argE {sp : Sp} {j : Nat} {vr : V} (h0 : σ[j]? = some (some vr)) (hw : Ev tx σ G P1) (k : ∀ v G', Ex G G' → P1 v G' → EvD (tCall sp [] E0 (tCons (tVar j) (tCons (tC v) tNil))) σ G' F r ap Pr) : EvD (tCall sp [] E0 (tCons (tVar j) (tCons tx tNil))) σ G F r ap Pr := fun G1 e p s m ok d Q q =>
  ⟨_, h0, hw G1 e _ d _ fun v G2 e2 d2 pv => by
    obtain ⟨u, hu, z⟩ := k v G2 (e.trans e2) pv G2 (Ex.refl _) p s m ok d2 Q fun x G3 p' s' m' ok' e3 d3 px => q x G3 p' s' m' ok' (e2.trans e3) d3 px
    cases h0.symm.trans hu
    exact z⟩
theorem s_setD {i : Nat} (dj : Dj G (rowF F r ap p s m)) (ok : RowOk p s) (h : EvD te σ G F r ap Pr) (k : ∀ v G' p' s' m', RowOk p' s' → Ex G G' → Dj G' (rowF F r ap p' s' m') → Pr v G' → tz E (σ.set i (some v)) (un G' (rowF F r ap p' s' m'))) : tSeq (tAsg te (gName i)) tz E σ (un G (rowF F r ap p s m)) := h G (Ex.refl _) p s m ok dj _ k
theorem s_retD (dj : Dj G (rowF F r ap p s m)) (ok : RowOk p s) (h : EvD te σ G F r ap Pr) (k : ∀ v G' p' s' m', RowOk p' s' → Ex G G' → Dj G' (rowF F r ap p' s' m') → Pr v G' → E.rt v (un G' (rowF F r ap p' s' m'))) : tSeq (tRet te) tz E σ (un G (rowF F r ap p s m)) := h G (Ex.refl _) p s m ok dj _ k
theorem s_ifD (dj : Dj G (rowF F r ap p s m)) (ok : RowOk p s) (h : EvD te σ G F r ap (fun v _ => ∃ b, v = .bl b)) (h1 : ∀ G' p' s' m', RowOk p' s' → Ex G G' → Dj G' (rowF F r ap p' s' m') → ty { E with nx := tz E } σ (un G' (rowF F r ap p' s' m'))) (h2 : ∀ G' p' s' m', RowOk p' s' → Ex G G' → Dj G' (rowF F r ap p' s' m') → tw { E with nx := tz E } σ (un G' (rowF F r ap p' s' m'))) : tSeq (tIfS (tTest te) ty tw) tz E σ (un G (rowF F r ap p s m)) :=
  h G (Ex.refl _) p s m ok dj _ fun v G' p' s' m' ok' e d ⟨b, hv⟩ => ⟨b, hv, by
    cases b with
    | true => exact h1 G' p' s' m' ok' e d
    | false => exact h2 G' p' s' m' ok' e d⟩
theorem s_parD {i j : Nat} (dj : Dj G (rowF F r ap p s m)) (ok : RowOk p s) (ha : EvD ta σ G F r ap P1) (mo : Mo P1) (hb : EvD tb σ G F r ap P2) (k : ∀ v w G' p' s' m', RowOk p' s' → Ex G G' → Dj G' (rowF F r ap p' s' m') → P1 v G' → P2 w G' → tz E ((σ.set i (some v)).set j (some w)) (un G' (rowF F r ap p' s' m'))) : tSeq (tPar i j (tCons ta (tCons tb tNil))) tz E σ (un G (rowF F r ap p s m)) :=
  ha G (Ex.refl _) p s m ok dj _ fun v G2 p2 s2 m2 ok2 e2 d2 pv => hb G2 e2 p2 s2 m2 ok2 d2 _ fun w G3 p3 s3 m3 ok3 e3 d3 pw => ⟨v, w, rfl, k v w G3 p3 s3 m3 ok3 (e2.trans e3) d3 (mo _ _ _ e3 pv) pw⟩
theorem s_newD {i : Nat} (dj : Dj G (rowF F r ap p s m)) (k : ∀ l, G l = none → F l = none → l ≠ r → Dj G (rowF (upd F l (.lst [])) r ap p s m) → tz E (σ.set i (some (.ref l))) (un G (rowF (upd F l (.lst [])) r ap p s m))) : tSeq (tAsg (tLst tNil) (gName i)) tz E σ (un G (rowF F r ap p s m)) := s_new dj fun l n1 n2 d => by
  have hne : l ≠ r := fun e => by subst e; rw [show rowF F l ap p s m l = some (rowO ap p s m) from upd_same] at n2; cases n2
  have z : upd (rowF F r ap p s m) l (.lst []) = rowF (upd F l (.lst [])) r ap p s m := upd_comm (Ne.symm hne)
  rw [z] at d ⊢
  exact k l n1 (by rwa [show rowF F r ap p s m l = F l from upd_ne hne] at n2) hne d
theorem s_appD {l : Addr} {i : Nat} {xs : List V} (dj : Dj G (rowF (upd F l (.lst xs)) r ap p s m)) (ok : RowOk p s) (hne : l ≠ r) (ha : σ[i]? = some (some (.ref l))) (hz : xs.length ≤ 1000) (h : EvD te σ G (upd F l (.lst xs)) r ap Pr) (k : ∀ v G' p' s' m', RowOk p' s' → Ex G G' → Dj G' (rowF (upd F l (.lst (xs ++ [v]))) r ap p' s' m') → Pr v G' → tz E σ (un G' (rowF (upd F l (.lst (xs ++ [v]))) r ap p' s' m'))) :
    tSeq (tDrop (tBM K "list" rAppend (tVar i) (tCons te tNil))) tz E σ (un G (rowF (upd F l (.lst xs)) r ap p s m)) := by
  have hl : ∀ p s m, (rowF (upd F l (.lst xs)) r ap p s m) l = some (.lst xs) := fun p s m => by
    show upd _ r _ l = _
    rw [upd_ne hne, upd_same]
  refine ⟨_, ha, .inl ⟨rfl, xs, SqL.of (un_r dj (hl _ _ _))⟩, h G (Ex.refl _) p s m ok dj _ fun v G2 p2 s2 m2 ok2 e2 d2 pv => ⟨l, xs, v, rfl, rfl, un_r d2 (hl _ _ _), small1000 hz, ?_⟩⟩
  have n1 : G2 l = none := d2.n (hl p2 s2 m2)
  show tz E σ (upd (un G2 (rowF (upd F l (.lst xs)) r ap p2 s2 m2)) l (.lst (xs ++ [v])))
  rw [upd_r n1]
  have z : upd (rowF (upd F l (.lst xs)) r ap p2 s2 m2) l (.lst (xs ++ [v])) = rowF (upd F l (.lst (xs ++ [v]))) r ap p2 s2 m2 := by
    show upd (upd (upd F l (.lst xs)) r (rowO ap p2 s2 m2)) l (.lst (xs ++ [v])) = _
    rw [upd_comm (Ne.symm hne), upd_upd]
  have d3 := d2.newR (o := .lst (xs ++ [v])) n1
  rw [z] at d3 ⊢
  exact k v G2 p2 s2 m2 ok2 e2 d3 pv
/-- comprehensions that draw -/
theorem ed_lcM {α : Type} {wi : TI} {xs : List α} {enc : α → PyData} {vs : List Nat} {j : Nat} (R : α → PyData → Prop) (fr : F r = none) (h : EvI wi σ G xs (fun a => D K (enc a))) (hz : xs.length ≤ 1000) (hw : ∀ x, wipe ((wipe σ vs).set j (some x)) vs = wipe σ vs)
    (he : ∀ a x G' F', a ∈ xs → Ex G G' → F' r = none → D K (enc a) x G' → EvD te ((wipe σ vs).set j (some x)) G' F' r ap (fun v G => ∃ d, R a d ∧ D K d v G)) : EvD (tLc wi (gName j) tYes te vs) σ G F r ap (fun v G => ∃ ds : List PyData, ds.length = xs.length ∧ (∀ (i : Nat) a d, xs[i]? = some a → ds[i]? = some d → R a d) ∧ Lx K ds v G) := fun G1 e p s m ok d Q q => by
  refine lc_st (S := Int × Int × Int) (Φ := fun z => rowF F r ap z.1 z.2.1 z.2.2) (Iv := fun i z ys G => RowOk z.1 z.2.1 ∧ i ≤ xs.length ∧ ∃ ds : List PyData, ds.length = i ∧ (∀ (i : Nat) a d, xs[i]? = some a → ds[i]? = some d → R a d) ∧ DpAll K G ys ds) (p, s, m) (fun G2 e2 => h G2 (e.trans e2)) d hw (fun G' e' => ⟨ok, Nat.zero_le _, [], rfl, (fun i a d _ h => by simp at h), .nil⟩) (fun i z ys G0 G' e' ⟨h1, h2, ds, h3, h4, h5⟩ => ⟨h1, h2, ds, h3, h4, dpA_ex e' _ _ h5⟩) (fun i z ys G ⟨h1, h2, ds, h3, h4, h5⟩ => by rw [dpA_len h5]; omega) ?_ ?_
  · rintro i a x G' ⟨p1, s1, m1⟩ ys Dl ha e' rr ⟨ok1, hi, ds, h3, h4, h5⟩ n1 n2 d1 Qk cont
    have hne : Dl ≠ r := fun e => by subst e; rw [show rowF F Dl ap p1 s1 m1 Dl = some (rowO ap p1 s1 m1) from upd_same] at n2; cases n2
    have fD : F Dl = none := by rwa [show rowF F r ap p1 s1 m1 Dl = F Dl from upd_ne hne] at n2
    have z : ∀ p1 s1 m1, upd (rowF F r ap p1 s1 m1) Dl (.lst ys) = rowF (upd F Dl (.lst ys)) r ap p1 s1 m1 := fun p1 s1 m1 => upd_comm (Ne.symm hne)
    have d1 : Dj G' (upd (rowF F r ap p1 s1 m1) Dl (.lst ys)) := d1
    show te _ (un G' (upd (rowF F r ap p1 s1 m1) Dl (.lst ys))) Qk
    rw [z] at d1 ⊢
    refine he a x G' (upd F Dl (.lst ys)) (List.mem_of_getElem? ha) (e.trans e') (by rw [upd_ne (Ne.symm hne)]; exact fr) rr G' (Ex.refl _) p1 s1 m1 ok1 d1 _ fun v G2 p2 s2 m2 ok2 e2 d2 ⟨dd, hR, hv⟩ => ?_
    rw [← z] at d2 ⊢
    have hlt : i < xs.length := (List.getElem?_eq_some_iff.mp ha).1
    refine cont v G2 (p2, s2, m2) e2 (by show upd F r _ Dl = none; rw [upd_ne hne]; exact fD) d2 ⟨ok2, hlt, ds ++ [dd], by rw [List.length_append, h3]; rfl, fun i' a' d' g1 g2 => ?_, dpA_app (dpA_ex e2 _ _ h5) (.cons hv .nil)⟩
    by_cases hi' : i' < ds.length
    · rw [List.getElem?_append_left hi'] at g2
      exact h4 i' a' d' g1 g2
    · have hl := (List.getElem?_eq_some_iff.mp g2).1
      rw [List.length_append] at hl
      have hl : i' < ds.length + 1 := hl
      have : i' = ds.length := by omega
      subst this
      rw [h3] at g1
      rw [ha] at g1
      rw [List.getElem?_append_right (Nat.le_refl _), Nat.sub_self] at g2
      cases g1
      cases g2
      exact hR
  · rintro Dl G' ⟨p1, s1, m1⟩ ys e' n1 n2 d1 ⟨ok1, hi, ds, h3, h4, h5⟩
    show Q (.ref Dl) (un G' (upd (rowF F r ap p1 s1 m1) Dl (.lst ys)))
    have d1 : Dj G' (upd (rowF F r ap p1 s1 m1) Dl (.lst ys)) := d1
    rw [upd_lr n1]
    exact q _ _ p1 s1 m1 ok1 (e'.trans (Ex.new n1)) ((d1.off n2).newL n2) ⟨ds, h3, h4, Dl, ys, rfl, upd_same, dpA_ex (Ex.new n1) _ _ h5⟩
end
theorem upd3 {F : Hp} {q l r : Addr} {a b c d : HO} (h1 : q ≠ r) (h2 : l ≠ r) (h3 : q ≠ l) : upd (upd (upd (upd F q a) r b) l c) q d = upd (upd (upd F q d) l c) r b := by
  funext x
  unfold upd
  by_cases e1 : x = q
  · subst e1; simp [h1, h3]
  · by_cases e2 : x = l
    · subst e2; simp [h2, e1]
    · by_cases e3 : x = r
      · subst e3; simp [e1, e2]
      · simp [e1, e2, e3]
theorem fd__law_pick (F : Df K mg "_law_pick" st__law_pick) (T : Txf mg) (D1 : FD P w K mg base 1 "_law_taken" ps__law_taken (sp__law_taken K C)) : FD P w K mg base 2 "_law_pick" ps__law_pick (sp__law_pick K C) := by
  refine fd_D F sc__law_pick rfl (fun _ _ _ _ _ _ us hl => match us, hl with | [_, _], _ => rfl) fun f cdv A outer s H E hr => ⟨_, dv__law_pick T D1 hr, ?_⟩
  rintro vs Q ds r ap ns p s m G F dj fr al ⟨hn1, hn2⟩ hd b1 b2 b3 k
  obtain ⟨v1, rfl, p1⟩ := al1 al
  have p1 : D K (.list ds) v1 G := p1
  have hn1 : 1 ≤ ds.length := hn1
  have hn2 : ds.length ≤ 1000 := hn2
  refine s_retD (ap := ap) dj ⟨b1, b2, b3⟩ (ed_bin (Pr := fun v G => ∃ d ∈ ds, D K d v G) (ed_of (ev_v (K := K) rfl p1)) (ed_call (n := 1) (j := 0) (K := K) ds.length fr rfl hd (ea_d (ev_lenL (ev_v rfl p1)) ea_nil) rfl ⟨hn1, hn2⟩) mo_D fun v w G' e q1 q2 => ?_) fun v G' p' s' m' ok e d q => k v G' p' s' m' ok.1 ok.2.1 ok.2.2 e d q
  obtain ⟨i, hi, rfl⟩ := q2
  have hi : i < ds.length := hi
  exact (ev_ixL (ev_cp q1) (ev_int (i : Int)) (List.getElem?_eq_getElem hi)).imp fun v G _ q => ⟨_, List.getElem_mem hi, q⟩

end
end Bf
set_option Elab.async false
set_option linter.all false
set_option maxRecDepth 100000
set_option maxHeartbeats 4000000
namespace Bf
open PySem PyProof.Rows L2
section
variable {P : Program} {w : World} {K : PySem.W.Frag} {mg : Str → Option Value} {base : Heap} {C : Addr}
/-! ### _law_mixed -/
theorem upd3' {F : Hp} {q l r : Addr} {b c d : HO} (h1 : q ≠ r) (h2 : l ≠ r) (h3 : q ≠ l) : upd (upd (upd F r b) l c) q d = upd (upd (upd F q d) l c) r b := by
  funext x
  unfold upd
  by_cases e1 : x = q
  · subst e1; simp [h1, h3]
  · by_cases e2 : x = l
    · subst e2; simp [h2, e1]
    · by_cases e3 : x = r
      · subst e3; simp [e1, e2]
      · simp [e1, e2, e3]
theorem dpA_erase {G : Hp} : ∀ {xs : List V} {ds : List PyData} (i : Nat), DpAll K G xs ds → DpAll K G (xs.eraseIdx i) (ds.eraseIdx i)
  | [], _, i, h => by cases h; exact .nil
  | x :: xs, _, 0, h => by cases h with | cons h1 h2 => exact h2
  | x :: xs, _, i + 1, h => by cases h with | cons h1 h2 => exact .cons h1 (dpA_erase i h2)
theorem erase_perm {α : Type} : ∀ (l : List α) (i : Nat) (h : i < l.length), (l[i] :: l.eraseIdx i).Perm l
  | x :: l, 0, h => List.Perm.refl _
  | x :: l, i + 1, h => by
    have h' : i < l.length := Nat.lt_of_succ_lt_succ h
    exact (List.Perm.swap _ _ _).trans ((erase_perm l i h').cons x)
theorem fd__law_mixed (F : Df K mg "_law_mixed" st__law_mixed) (T : Txf mg) (D1 : FD P w K mg base 1 "_law_taken" ps__law_taken (sp__law_taken K C)) : FD P w K mg base 2 "_law_mixed" ps__law_mixed (sp__law_mixed K C) := by
  refine fd_D F sc__law_mixed rfl (fun _ _ _ _ _ _ us hl => match us, hl with | [_, _], _ => rfl) fun f cdv A outer s H E hr => ⟨_, dv__law_mixed T D1 hr, ?_⟩
  rintro vs Q ds r ap ns p s m G F dj fr al ⟨hn, hfi⟩ hd b1 b2 b3 k
  obtain ⟨v1, rfl, p1⟩ := al1 al
  have p1 : D K (.tuple ds) v1 G := p1
  have hn : ds.length ≤ 100 := hn
  have hfi : ∀ d ∈ ds, Fine 10 d := hfi
  obtain ⟨a, xs0, rfl, h1, h2⟩ := p1.tup
  refine ⟨_, rfl, a, xs0, rfl, .inr (sqT_ex ex_un h1), fun l hl => ?_⟩
  refine ⟨Nat.zero_le _, fun q hq => ⟨.ref l, .ref q, rfl, ?_⟩⟩
  obtain ⟨l1, l2⟩ := un_no hl
  have lr : l ≠ r := fun e => by subst e; rw [upd_same] at l2; cases l2
  have fl : F l = none := by rwa [upd_ne lr] at l2
  have ql : q ≠ l := fun e => by subst e; rw [upd_same] at hq; cases hq
  rw [upd_ne ql] at hq
  obtain ⟨q1, q2⟩ := un_no hq
  have qr : q ≠ r := fun e => by subst e; rw [upd_same] at q2; cases q2
  have fq : F q = none := by rwa [upd_ne qr] at q2
  show tSeq _ _ _ _ (upd (upd (un G (rowF F r ap p s m)) l (.lst xs0)) q (.lst []))
  rw [upd_r l1, upd_r q1]
  have d1 := (dj.newR (o := .lst xs0) l1).newR (o := .lst []) q1
  have z := upd3' (F := F) (b := rowO ap p s m) (c := HO.lst xs0) (d := HO.lst []) qr lr ql
  rw [z] at d1
  show tSeq _ _ _ _ (un G (upd (upd (upd F r (rowO ap p s m)) l (.lst xs0)) q (.lst [])))
  rw [z]
  refine ⟨fun mm σ H => Iv G (fun σ G' F' => ∃ xs ys left fnd p s m, F' = rowF (upd (upd F q (.lst ys)) l (.lst xs)) r ap p s m ∧ RowOk p s ∧ DpAll K G' xs left ∧ DpAll K G' ys fnd ∧ (fnd ++ left).Perm ds ∧ mm = left.length ∧ σ = [some (.ref r), some (.ref a), some (.ref l), some (.ref q)]) σ H, ⟨ds.length, Iv.mk (Ex.refl _) d1 ⟨xs0, [], ds, [], p, s, m, rfl, ⟨b1, b2, b3⟩, h2, .nil, List.Perm.refl _, rfl, rfl⟩⟩, ?_⟩
  rintro mm σ H ⟨G', F', rfl, e', d', xs, ys, left, fnd, p1, s1, m1, rfl, ok, hx, hy, hperm, rfl, rfl⟩
  have zz : rowF (upd (upd F q (.lst ys)) l (.lst xs)) r ap p1 s1 m1 = upd (rowF (upd F q (.lst ys)) r ap p1 s1 m1) l (.lst xs) := upd_comm lr
  rw [zz] at d' ⊢
  have Bl : ∀ p s m, rowF (upd F q (.lst ys)) r ap p s m l = none := fun p s m => by
    show upd _ r _ l = none
    rw [upd_ne lr, upd_ne (Ne.symm ql)]
    exact fl
  have Bq : ∀ p s m, rowF (upd F q (.lst ys)) r ap p s m q = some (.lst ys) := fun p s m => by
    show upd _ r _ q = _
    rw [upd_ne qr, upd_same]
  have gl : G' l = none := d'.n upd_same
  rw [upd_lr gl]
  have dB : Dj (upd G' l (.lst xs)) (rowF (upd F q (.lst ys)) r ap p1 s1 m1) := (d'.off (Bl _ _ _)).newL (Bl _ _ _)
  have hfl : ∀ d ∈ left, Fine 10 d := fun d hd => hfi d (hperm.mem_iff.mp (List.mem_append_right _ hd))
  have hxl := dpA_len hx
  have hyl := dpA_len hy
  have hpl := hperm.length_eq
  rw [List.length_append] at hpl
  have left_d : D K (.list left) (.ref l) (upd G' l (.lst xs)) := dLst upd_same (dpA_ex (Ex.new gl) _ _ hx)
  have test : EvT (tTest (tOp (rNeD K) (tVar 2) (tLst tNil))) [some (.ref r), some (.ref a), some (.ref l), some (.ref q)] (upd G' l (.lst xs)) (!decide (left = [])) := (et_test (ev_neD (ev_v rfl left_d) (Ev.l (ev_lst0 (K := K) (ds := []) ea_nil (by simp))) ((fine_list hfl).shaped (by omega)) rfl)).of (by rw [eqv_nil])
  cases left with
  | nil =>
    refine (test.of (b' := false) (by simp)).run dB fun G2 e2 d2 => ?_
    have eB : rowF (upd F q (.lst ys)) r ap p1 s1 m1 = upd (rowF F r ap p1 s1 m1) q (.lst ys) := upd_comm qr
    have e3 : Ex G' G2 := (Ex.new gl).trans e2
    have g2 : G2 q = none := d2.n (Bq _ _ _)
    rw [eB] at d2 ⊢
    rw [upd_lr g2]
    have q2' : rowF F r ap p1 s1 m1 q = none := by
      show upd _ r _ q = none
      rw [upd_ne qr]
      exact fq
    refine s_ret ((d2.off q2').newL q2') (ev_v (K := K) (i := 3) rfl (dLst upd_same (dpA_ex (e3.trans (Ex.new g2)) _ _ hy))) fun v G3 e4 d4 pv => k v G3 p1 s1 m1 ok.1 ok.2.1 ok.2.2 ((e'.trans e3).trans ((Ex.new g2).trans e4)) d4 ⟨fnd, by rwa [List.append_nil] at hperm, pv⟩
  | cons d0 rest =>
    refine (test.of (b' := true) (by simp)).run dB fun G2 e2 d2 => ?_
    refine ⟨_, fun σ2 H2 pp => ⟨rest.length, Nat.lt_succ_self _, pp⟩, ?_⟩
    refine ⟨_, rfl, .inl ⟨rfl, ys, SqL.of (un_r d2 (Bq _ _ _))⟩, _, rfl, .inl ⟨rfl, xs, SqL.of (un_l (e2 _ _ upd_same))⟩, ?_⟩
    refine (ed_call (n := 1) (j := 0) (K := K) (d0 :: rest).length (by rw [upd_ne (Ne.symm qr)]; exact fr) rfl (hd.ex ((e'.trans (Ex.new gl)).trans e2)) (ea_d (ev_lenL (ev_v (i := 2) rfl (left_d.ex e2))) ea_nil) rfl ⟨by simp, by omega⟩) G2 (Ex.refl _) p1 s1 m1 ok d2 _ fun v G3 p2 s2 m2 ok2 e3 d3 pv => ?_
    obtain ⟨i, hi, rfl⟩ := pv
    have hi : i < (d0 :: rest).length := hi
    obtain ⟨y, hy1, hy2⟩ := dpA_get hx (List.getElem?_eq_getElem hi)
    obtain ⟨c1, c2, c3⟩ := row_back d3 (e2.trans e3) (Bl _ _ _) gl
    refine ⟨l, xs, i, i, y, rfl, rfl, un_l (e3 _ _ (e2 _ _ upd_same)), by omega, by omega, ?_, hy1, ?_⟩
    · unfold seqIndex?
      have e0 : (if (i : Int) < 0 then (i : Int) + (xs.length : Int) else (i : Int)) = (i : Int) := if_neg (by omega)
      simp only [e0]
      rw [if_pos (by rw [Bool.and_eq_true, decide_eq_true_eq, decide_eq_true_eq]; omega), Int.toNat_natCast]
    · rw [c3]
      have gl3 : rm G3 l l = none := by unfold rm; rw [if_pos rfl]
      have c4 := c2.newR (o := .lst (xs.eraseIdx i)) gl3
      rw [upd_upd] at c4
      have hq3 : upd (rowF (upd F q (.lst ys)) r ap p2 s2 m2) l (.lst (xs.eraseIdx i)) q = some (.lst ys) := by rw [upd_ne ql]; exact Bq _ _ _
      have gq3 : rm G3 l q = none := c4.n hq3
      refine ⟨q, ys, y, rfl, rfl, un_r c4 hq3, small1000 (by omega), ?_⟩
      show tNext _ _ (upd _ _ _)
      rw [upd_r gq3]
      have c5 := c4.newR (o := .lst (ys ++ [y])) gq3
      have z3 := upd3 (F := F) (a := .lst ys) (b := rowO ap p2 s2 m2) (c := .lst (xs.eraseIdx i)) (d := .lst (ys ++ [y])) qr lr ql
      have c5 : Dj (rm G3 l) (upd (upd (upd (upd F q (.lst ys)) r (rowO ap p2 s2 m2)) l (.lst (xs.eraseIdx i))) q (.lst (ys ++ [y]))) := c5
      show tNext _ _ (un (rm G3 l) (upd (upd (upd (upd F q (.lst ys)) r (rowO ap p2 s2 m2)) l (.lst (xs.eraseIdx i))) q (.lst (ys ++ [y]))))
      rw [z3] at c5 ⊢
      refine s_iv (e'.trans c1) c5 rfl ⟨_, _, (d0 :: rest).eraseIdx i, fnd ++ [(d0 :: rest)[i]], p2, s2, m2, rfl, ok2, dpA_erase i (dpA_ex c1 _ _ hx), dpA_app (dpA_ex c1 _ _ hy) (.cons (dp_ex c1 _ _ hy2) .nil), ?_, ?_, rfl⟩
      · rw [List.append_assoc]
        exact ((erase_perm _ i hi).append_left fnd).trans hperm
      · rw [List.length_eraseIdx, if_pos hi]
        rfl

end
end Bf
set_option Elab.async false
set_option linter.all false
set_option maxRecDepth 100000
set_option maxHeartbeats 4000000
namespace Bf
open PySem PyProof.Rows L2
section
variable {P : Program} {w : World} {K : PySem.W.Frag} {mg : Str → Option Value} {base : Heap} {C : Addr}
/-! ### _law_loads -/
section
variable {σ : St} {G F : Hp} {te ty : TE} {E : Ends} {tz : TS} {r ap : Addr} {Pr : V → Hp → Prop} {p s m : Int}
theorem s_dnewD {i : Nat} (dj : Dj G (rowF F r ap p s m)) (k : ∀ l, G l = none → F l = none → l ≠ r → Dj G (rowF (upd F l (.dK [])) r ap p s m) → tz E (σ.set i (some (.ref l))) (un G (rowF (upd F l (.dK [])) r ap p s m))) : tSeq (tAsg tDNewK (gName i)) tz E σ (un G (rowF F r ap p s m)) := s_dnew dj fun l n1 n2 d => by
  have hne : l ≠ r := fun e => by subst e; rw [show rowF F l ap p s m l = some (rowO ap p s m) from upd_same] at n2; cases n2
  have z : upd (rowF F r ap p s m) l (.dK []) = rowF (upd F l (.dK [])) r ap p s m := upd_comm (Ne.symm hne)
  rw [z] at d ⊢
  exact k l n1 (by rwa [show rowF F r ap p s m l = F l from upd_ne hne] at n2) hne d
theorem s_dputD {l : Addr} {i : Nat} {vs : List (Key × V)} {x : Str} (dj : Dj G (rowF (upd F l (.dK vs)) r ap p s m)) (ok : RowOk p s) (hne : l ≠ r) (ha : σ[i]? = some (some (.ref l))) (hz : vs.length ≤ 1000) (h : EvD te σ G (upd F l (.dK vs)) r ap Pr) (mo : Mo Pr) (hs : ∀ G', Ex G G' → Ev ty σ G' (D K (.str x))) (hn : valV vs (Sum.inr x : Key) = none)
    (k : ∀ v G' p' s' m', RowOk p' s' → Ex G G' → Dj G' (rowF (upd F l (.dK (vs ++ [(Sum.inr x, v)]))) r ap p' s' m') → Pr v G' → tz E σ (un G' (rowF (upd F l (.dK (vs ++ [(Sum.inr x, v)]))) r ap p' s' m'))) :
    tSeq (sDPut (tVar i) ty te) tz E σ (un G (rowF (upd F l (.dK vs)) r ap p s m)) := h G (Ex.refl _) p s m ok dj _ fun v G2 p2 s2 m2 ok2 e2 d2 pv => by
  have hl : (rowF (upd F l (.dK vs)) r ap p2 s2 m2) l = some (.dK vs) := by
    show upd _ r _ l = _
    rw [upd_ne hne, upd_same]
  have z : ∀ v, upd (rowF (upd F l (.dK vs)) r ap p2 s2 m2) l (.dK (vs ++ [(Sum.inr x, v)])) = rowF (upd F l (.dK (vs ++ [(Sum.inr x, v)]))) r ap p2 s2 m2 := fun v => by
    show upd (upd (upd F l (.dK vs)) r (rowO ap p2 s2 m2)) l (.dK (vs ++ [(Sum.inr x, v)])) = _
    rw [upd_comm (Ne.symm hne), upd_upd]
  have zz : tSeq (sDPut (tVar i) ty (tC v)) tz E σ (un G2 (rowF (upd F l (.dK vs)) r ap p2 s2 m2)) := s_dput (P := fun y _ => y = v) d2 hl ha hz (ev_c fun _ => rfl) (fun _ _ _ _ h => h) (fun G' e' => hs G' (e2.trans e')) hn fun y G3 e3 d3 hy => by
    subst hy
    rw [z] at d3 ⊢
    exact k y G3 p2 s2 m2 ok2 (e2.trans e3) d3 (mo _ _ _ e3 pv)
  exact zz
end
theorem asc_sub {a b : List Str} (h : a.Sublist b) (hb : Asc b) : Asc a := List.Pairwise.sublist h hb
theorem names_take {pl : PlanD} {i : Nat} : (pl.points.take i).map (fun q => q.1) = pl.names.take i := by
  unfold PlanD.names
  rw [List.map_take]
theorem fd__law_loads (F : Df K mg "_law_loads" st__law_loads) (T : Txf mg) (D1 : FD P w K mg base 1 "_law_taken" ps__law_taken (sp__law_taken K C)) : FD P w K mg base 2 "_law_loads" ps__law_loads (sp__law_loads K C) := by
  refine fd_D F sc__law_loads rfl (fun _ _ _ _ _ _ us hl => match us, hl with | [_, _], _ => rfl) fun f cdv A outer s H E hr => ⟨_, dv__law_loads T D1 hr, ?_⟩
  rintro vs Q ⟨pl, rest⟩ r ap ns p s m G F dj fr al hp hd b1 b2 b3 k
  obtain ⟨v1, rfl, p1⟩ := al1 al
  have hp : PlOk pl := hp
  have p1 : D K (.tuple ([eRates pl.rates, eOpts pl.above, ePoints pl.points, .str pl.rule] ++ rest)) v1 G := p1
  refine s_dnewD (ap := ap) dj fun l n1 n2 hne d1 => ?_
  refine s_for d1 (ei_tup (as := pl.points) (enc := ePoint) (ev_ixT (i := 2) (ev_v rfl p1) (ev_int 2) rfl)) fun G1 e1 d1 => ⟨fun i σ G' F' => ∃ (vs : List (Key × V)) (loads : Loads) (p s m : Int), F' = rowF (upd F l (.dK vs)) r ap p s m ∧ RowOk p s ∧ KDs K G' vs (eLoads loads) ∧ (loads.map Prod.fst).Sublist (pl.names.take i) ∧ (∀ q ∈ loads, 1 ≤ q.2 ∧ q.2 ≤ 99) ∧ ∃ o3, σ = [some (.ref r), some v1, some (.ref l), o3], ⟨[], [], p, s, m, rfl, ⟨b1, b2, b3⟩, .nil, List.nil_sublist _, (fun q h => nomatch h), none, rfl⟩, ?_, ?_, ?_⟩
  · rintro i pt x σ' G2 F' hi e2 d2 rr ⟨vs, loads, p1, s1, m1, rfl, ok, hk, hsub, hval, o3, rfl⟩
    obtain ⟨nm, kd, room⟩ := pt
    have e := e1.trans e2
    have rr : D K (.tuple [.str nm, .str kd, .int room]) x G2 := rr
    have hni : pl.names[i]? = some nm := by unfold PlanD.names; rw [List.getElem?_map, hi]; rfl
    refine (eg_name (G := G2)) G2 (Ex.refl _) _ d2 _ fun σ2 hs2 => ?_
    subst hs2
    have frl : ∀ o, (upd F l o) r = none := fun o => by rw [upd_ne (Ne.symm hne)]; exact fr
    have hlen : loads.length ≤ pl.points.length := by
      have := hsub.length_le
      rw [List.length_map, List.length_take] at this
      unfold PlanD.names at this
      rw [List.length_map] at this
      omega
    have hvl : vs.length = loads.length := by
      have z : vs.length = _ := Paired.length hk
      unfold eLoads at z
      rwa [List.length_map] at z
    have hnew : nm ∉ loads.map Prod.fst := fun hm => nodup_at (asc_nodup hp.na) hni (hsub.subset hm)
    have hn5 := hp.p2
    refine s_ifD d2 ok (ed_bin (P1 := fun v _ => ∃ i : Nat, i < 3 ∧ v = .int i) (P2 := D K (.int 0)) (ed_call (n := 1) (j := 0) (K := K) 3 (frl _) rfl (hd.ex e) (ea_d (ev_int 3) ea_nil) rfl ⟨by decide, by decide⟩) (ed_of (ev_int 0)) (fun _ _ _ _ h => h) fun v w' G' e' q1 q2 => ?_) (fun G3 p3 s3 m3 ok3 e3 d3 => ?_) fun G3 p3 s3 m3 ok3 e3 d3 => ?_
    · obtain ⟨j, hj, rfl⟩ := q1
      exact (ev_gt (ev_cp (K := K) (dInt _)) (ev_cp q2)).imp fun v G _ q => ⟨_, D.bl q⟩
    · refine s_dputD (K := K) (x := nm) (Pr := fun v _ => ∃ j : Nat, j < 9 ∧ v = .int (1 + (j : Int))) d3 ok3 hne rfl (by omega) (ed_bin (P1 := D K (.int 1)) (P2 := fun v _ => ∃ i : Nat, i < 9 ∧ v = .int i) (ed_of (ev_int 1)) (ed_call (n := 1) (j := 0) (K := K) 9 (frl _) rfl (hd.ex (e.trans e3)) (ea_d (ev_int 9) ea_nil) rfl ⟨by decide, by decide⟩) mo_D fun v w' G' e' q1 q2 => ?_) (fun _ _ _ _ h => h) (fun G' e' => ev_ixT (i := 0) (ev_v rfl (rr.ex (e3.trans e'))) (ev_int 0) rfl) ?_ fun v G4 p4 s4 m4 ok4 e4 d4 pv => ?_
      · obtain ⟨j, hj, rfl⟩ := q2
        exact (ev_plusI (ev_cp q1) (ev_cp (K := K) (dInt _))).imp fun v G _ q => ⟨j, hj, D.int q⟩
      · have z := kds_get (s := nm) hk
        rw [getK_none (by rw [eLoads_keys]; exact hnew)] at z
        exact z
      · obtain ⟨j, hj, rfl⟩ := pv
        refine s_nx (s_nx (s_iv ((e2.trans e3).trans e4) d4 rfl ⟨_, loads ++ [(nm, 1 + (j : Int))], p4, s4, m4, rfl, ok4, ?_, ?_, ?_, _, rfl⟩))
        · unfold eLoads
          rw [List.map_append]
          exact paired_app (kds_ex (e3.trans e4) hk) (.cons ⟨rfl, dInt _⟩ .nil)
        · rw [take_snoc hni, List.map_append]
          exact hsub.append (List.Sublist.refl _)
        · intro q hq
          rcases List.mem_append.mp hq with h | h
          · exact hval q h
          · rcases List.mem_singleton.mp h with rfl
            show 1 ≤ 1 + (j : Int) ∧ 1 + (j : Int) ≤ 99
            omega
    · refine s_nx (s_nx (s_iv (e2.trans e3) d3 rfl ⟨vs, loads, p3, s3, m3, rfl, ok3, kds_ex e3 hk, ?_, hval, _, rfl⟩))
      rw [take_snoc hni]
      exact hsub.trans (List.sublist_append_left _ _)
  · rintro i σ' G0 G' F' e ⟨vs, loads, p1, s1, m1, h1, h2, h3, h4⟩
    exact ⟨vs, loads, p1, s1, m1, h1, h2, kds_ex e h3, h4⟩
  · rintro σ' G2 F' e2 d2 ⟨vs, loads, p1, s1, m1, rfl, ok, hk, hsub, hval, o3, rfl⟩
    have hl : pl.names.take pl.points.length = pl.names := by
      rw [List.take_of_length_le]
      unfold PlanD.names
      rw [List.length_map]
      exact Nat.le_refl _
    rw [hl] at hsub
    have z : rowF (upd F l (.dK vs)) r ap p1 s1 m1 = upd (rowF F r ap p1 s1 m1) l (.dK vs) := upd_comm hne
    have n3 : G2 l = none := d2.n (by show upd _ r _ l = _; rw [upd_ne hne, upd_same])
    have n4 : rowF F r ap p1 s1 m1 l = none := by show upd _ r _ l = _; rw [upd_ne hne]; exact n2
    rw [z] at d2 ⊢
    rw [upd_lr n3]
    refine s_ret ((d2.off n4).newL n4) (ev_var (i := 2) rfl mo_Dx (⟨l, vs, rfl, upd_same, kds_ex (Ex.new n3) hk⟩ : Dx K (eLoads loads) (.ref l) _)) fun v G3 e3 d3 q => k v G3 p1 s1 m1 ok.1 ok.2.1 ok.2.2 (((e1.trans e2).trans (Ex.new n3)).trans e3) d3 ⟨loads, ⟨asc_sub hsub hp.na, ?_, fun q hq => ⟨hsub.subset (List.mem_map.mpr ⟨q, hq, rfl⟩), (hval q hq).1, (hval q hq).2⟩⟩, q⟩
    have := hsub.length_le
    have hn5 := hp.p2
    unfold PlanD.names at this
    rw [List.length_map, List.length_map] at this
    omega

end
end Bf
set_option Elab.async false
set_option linter.all false
set_option maxRecDepth 100000
set_option maxHeartbeats 4000000
namespace Bf
open PySem PyProof.Rows L2
section
variable {P : Program} {w : World} {K : PySem.W.Frag} {mg : Str → Option Value} {base : Heap} {C : Addr}
/-! ### the law's reading of power -/
theorem isN_opt {o : Option Nat} : isN (eOpt o) = o.isNone := by cases o <;> rfl
theorem hasPw_none {above : List (Option Nat)} {st : List Bool} {b : Nat} (h : up above b = none) : hasPw above st (some b) = st.getD b false := by
  show ((lineUp above b).all fun i => st.getD i false) = _
  rw [lineUp_none h]
  simp
theorem hasPw_some {above : List (Option Nat)} {st : List Bool} {b q : Nat} (T : Tree above) (h : up above b = some q) : hasPw above st (some b) = (hasPw above st (some q) && st.getD b false) := by
  show ((lineUp above b).all fun i => st.getD i false) = (((lineUp above q).all fun i => st.getD i false) && st.getD b false)
  rw [lineUp_some T h, List.all_append]
  simp
theorem onLine_none {above : List (Option Nat)} {i b : Nat} (h : up above b = none) : onLine above i (some b) = decide (b = i) := by
  show (lineUp above b).contains i = _
  rw [lineUp_none h, List.contains_cons]
  by_cases e : b = i
  · subst e; simp
  · have : ¬ i = b := fun z => e z.symm
    simp [this, e]
theorem onLine_some {above : List (Option Nat)} {i b q : Nat} (T : Tree above) (h : up above b = some q) : onLine above i (some b) = (onLine above i (some q) || decide (b = i)) := by
  show (lineUp above b).contains i = ((lineUp above q).contains i || decide (b = i))
  rw [lineUp_some T h]
  by_cases e : b = i
  · subst e; simp
  · have : ¬ i = b := fun z => e z.symm
    simp [this, e]
theorem up_at {pl : PlanD} (hp : PlOk pl) {b : Nat} (hb : b < pl.rates.length) : (pl.above.map eOpt)[b]? = some (eOpt (up pl.above b)) := by
  have h : b < pl.above.length := by rw [hp.al]; exact hb
  unfold up
  rw [List.getElem?_map, List.getElem?_eq_getElem h, List.getD_eq_getElem?_getD, List.getElem?_eq_getElem h]
  rfl
theorem st_at {st : List Bool} {b : Nat} (hb : b < st.length) : (st.map PyData.bool)[b]? = some (.bool (st.getD b false)) := by
  rw [List.getElem?_map, List.getElem?_eq_getElem hb, List.getD_eq_getElem?_getD, List.getElem?_eq_getElem hb]
  rfl
theorem fd__law_has (F : Df K mg "_law_has" st__law_has) (T : Txf mg) : FD P w K mg base 1 "_law_has" ps__law_has (sp__law_has K C) := by
  refine fd_S F sc__law_has rfl (fun _ _ _ _ _ _ us hl => match us, hl with | [_, _, _], _ => rfl) fun f cdv A outer s H E hr => ⟨_, dv__law_has (C := C) T hr, ?_⟩
  rintro vs Q ⟨pl, rest, st, o0⟩ G F dj al ⟨hp, hst, ho⟩ k
  obtain ⟨v0, v1, v2, rfl, p0, p1, p2⟩ := al3 al
  have hp : PlOk pl := hp
  have p0 : D K (.tuple ([eRates pl.rates, .tuple (pl.above.map eOpt), ePoints pl.points, .str pl.rule] ++ rest)) v0 G := p0
  have p1 : D K (.tuple (st.map PyData.bool)) v1 G := p1
  have p2 : D K (eOpt o0) v2 G := p2
  have hst : st.length = pl.rates.length := hst
  have ho : ∀ b, o0 = some b → b < pl.rates.length := ho
  have k : ∀ v G', Ex G G' → Dj G' F → D K (.bool (hasPw pl.above st o0)) v G' → Q v (un G' F) := k
  have hn5 := hp.n2
  refine s_for dj (ei_range1 (K := K) (n := 9) (ev_int 9) (by omega)) fun G1 e1 d1 => ⟨fun i σ G' F' => F' = F ∧ ∃ (o : Option Nat) (x : V), hasPw pl.above st o = hasPw pl.above st o0 ∧ (∀ b, o = some b → b + i < pl.rates.length) ∧ (o = none → i = 0) ∧ D K (eOpt o) x G' ∧ ∃ o3, σ = [some v0, some v1, some x, o3], ⟨rfl, o0, v2, rfl, ho, fun _ => rfl, p2.ex e1, none, rfl⟩, ?_, ?_, ?_⟩
  · rintro i n y σ' G2 F' hi e2 d2 r ⟨rfl, o, x, hpw, hb, h0, hx, o3, rfl⟩
    have e := e1.trans e2
    refine (eg_name (G := G2)) G2 (Ex.refl _) _ d2 _ fun σ2 hs2 => ?_
    subst hs2
    cases o with
    | none =>
      refine s_yes d2 ((et_or (et_B (ev_isN (ev_v (i := 2) rfl hx))) (b := true) fun h => nomatch h).of rfl) fun G3 e3 d3 => ?_
      refine s_ret d3 (ev_bl (K := K) false) fun v G4 e4 d4 q => k v G4 (e.trans (e3.trans e4)) d4 ?_
      rw [← hpw]
      exact q
    | some b =>
      have hbb := hb b rfl
      have hbl : b < pl.rates.length := by omega
      have hx' : D K (.int (b : Int)) x G2 := hx
      refine s_if d2 (b := !st.getD b false) ((et_or (et_B (ev_isN (ev_v (i := 2) rfl hx))) fun _ => et_not (et_B (ev_ixT (i := b) (ev_v rfl (p1.ex e)) (ev_v rfl hx') (st_at (by omega))))).of rfl) (fun hs G3 e3 d3 => ?_) fun hs G3 e3 d3 => s_nx ?_
      · refine s_ret d3 (ev_bl (K := K) false) fun v G4 e4 d4 q => k v G4 (e.trans (e3.trans e4)) d4 ?_
        have z : hasPw pl.above st (some b) = false := by
          have hs : st.getD b false = false := by simpa using hs
          cases hu : up pl.above b with
          | none => rw [hasPw_none hu]; exact hs
          | some q => rw [hasPw_some hp.tr hu, hs, Bool.and_false]
        rw [← hpw, z]
        exact q
      · have hs : st.getD b false = true := by simpa using hs
        have E3 := e.trans e3
        have hup : Ev (tOp (rIx K) (tOp (rIx K) (tVar 0) (tC (.int 1))) (tVar 2)) [some v0, some v1, some x, some y] G3 (D K (eOpt (up pl.above b))) := ev_ixT (i := b) (ev_ixT (i := 1) (ev_v rfl (p0.ex E3)) (ev_int 1) rfl) (ev_v rfl (hx'.ex e3)) (up_at hp hbl)
        refine s_if d3 (et_B (ev_isN hup)) (fun hn G4 e4 d4 => ?_) fun hn G4 e4 d4 => s_nx ?_
        · refine s_ret d4 (ev_bl (K := K) true) fun v G5 e5 d5 q => k v G5 (E3.trans (e4.trans e5)) d5 ?_
          rw [isN_opt] at hn
          have hu : up pl.above b = none := by
            cases hu : up pl.above b with
            | none => rfl
            | some q => rw [hu] at hn; cases hn
          rw [← hpw, hasPw_none hu, hs]
          exact q
        · rw [isN_opt] at hn
          obtain ⟨q, hu⟩ : ∃ q, up pl.above b = some q := by
            cases hu : up pl.above b with
            | none => rw [hu] at hn; cases hn
            | some q => exact ⟨q, rfl⟩
          have hlt := up_lt hp.tr hu
          refine s_set d4 (fun G1 e => hup G1 (e4.trans e)) fun v G5 e5 d5 pv => s_nx (s_iv ((e2.trans e3).trans (e4.trans e5)) d5 rfl ⟨rfl, some q, v, ?_, fun b' hb' => ?_, (fun h => nomatch h), ?_, _, rfl⟩)
          · rw [← hpw, hasPw_some hp.tr hu, hs, Bool.and_true]
          · cases hb'
            omega
          · rw [← hu]
            exact pv
  · rintro i σ' G0 G' F' e ⟨rfl, o, x, h1, h2, h3, h4, h5⟩
    exact ⟨rfl, o, x, h1, h2, h3, h4.ex e, h5⟩
  · rintro σ' G2 F' e2 d2 ⟨rfl, o, x, hpw, hb, h0, hx, o3, rfl⟩
    rw [List.length_range] at hb h0
    cases o with
    | none => exact absurd (h0 rfl) (by decide)
    | some b => exact absurd (hb b rfl) (by omega)
theorem wir_at {wir : List (Option Nat)} {k : Nat} (h : k < wir.length) : (wir.map eOpt)[k]? = some (eOpt (wir.getD k none)) := by
  rw [List.getElem?_map, List.getElem?_eq_getElem h, List.getD_eq_getElem?_getD, List.getElem?_eq_getElem h]
  rfl
theorem wir_lt {pl : PlanD} {wir : List (Option Nat)} (hw : WirOk pl wir) {k : Nat} (h : k < wir.length) : ∀ b, wir.getD k none = some b → b < pl.rates.length := fun b hb => by
  rw [List.getD_eq_getElem?_getD, List.getElem?_eq_getElem h] at hb
  have hb : wir[k] = some b := hb
  exact hw.2 b (hb ▸ List.getElem_mem h)
theorem fd__law_lit (F : Df K mg "_law_lit" st__law_lit) (T : Txf mg) (D1 : FD P w K mg base 1 "_law_has" ps__law_has (sp__law_has K C)) : FD P w K mg base 2 "_law_lit" ps__law_lit (sp__law_lit K C) := by
  refine fd_S F sc__law_lit rfl (fun _ _ _ _ _ _ us hl => match us, hl with | [_, _, _], _ => rfl) fun f cdv A outer s H E hr => ⟨_, dv__law_lit (C := C) T D1 hr, ?_⟩
  rintro vs Q ⟨pl, rest, wir, st⟩ G F dj al ⟨hp, hw, hst⟩ k
  obtain ⟨v0, v1, v2, rfl, p0, p1, p2⟩ := al3 al
  have hp : PlOk pl := hp
  have hw : WirOk pl wir := hw
  have p0 : D K (eS pl rest) v0 G := p0
  have p1 : D K (.tuple (wir.map eOpt)) v1 G := p1
  have p2 : D K (eBools st) v2 G := p2
  have hn5 := hp.p2
  have hwl := hw.1
  refine s_ret dj (Ev.l (e_lcN (K := K) (xs := List.range wir.length) (enc := fun (n : Nat) => PyData.int (n : Nat)) (fun j => hasPw pl.above st (wir.getD j none)) (fun (n : Nat) => PyData.int (n : Nat)) (ei_range1 ((ev_lenT (ev_v rfl p1)).of (by rw [List.length_map])) (by omega)) (by rw [List.length_range]; omega) (fun _ => rfl) (fun j y G' hm e ry => ?_) fun j y G' hm e ry hf => ev_v rfl ry)) k
  have hj : j < wir.length := List.mem_range.mp hm
  have ry : D K (.int (j : Int)) y G' := ry
  exact et_B (c__law_has (pl, rest, st, wir.getD j none) (ea_d (ev_v rfl (p0.ex e)) (ea_d (ev_v rfl (p2.ex e)) (ea_d (ev_ixT (i := j) (ev_v rfl (p1.ex e)) (ev_v rfl ry) (wir_at hj)) ea_nil))) ⟨hp, hst, wir_lt hw hj⟩)
theorem eqvOptI {o : Option Nat} {i : Nat} : PyData.eqv (eOpt o) (.int (i : Int)) = decide (o = some i) := by
  cases o with
  | none => rfl
  | some b =>
    show ((b : Int) == (i : Int)) = _
    rw [Bool.beq_eq_decide_eq]
    apply decide_eq_decide.mpr
    constructor
    · intro h; congr 1; omega
    · intro h; cases h; rfl
theorem fd__law_under (F : Df K mg "_law_under" st__law_under) (T : Txf mg) : FD P w K mg base 1 "_law_under" ps__law_under (sp__law_under K C) := by
  refine fd_S F sc__law_under rfl (fun _ _ _ _ _ _ us hl => match us, hl with | [_, _, _], _ => rfl) fun f cdv A outer s H E hr => ⟨_, dv__law_under (C := C) T hr, ?_⟩
  rintro vs Q ⟨pl, rest, o0, br⟩ G F dj al ⟨hp, ho⟩ k
  obtain ⟨v0, v1, v2, rfl, p0, p1, p2⟩ := al3 al
  have hp : PlOk pl := hp
  have p0 : D K (.tuple ([eRates pl.rates, .tuple (pl.above.map eOpt), ePoints pl.points, .str pl.rule] ++ rest)) v0 G := p0
  have p1 : D K (eOpt o0) v1 G := p1
  have p2 : D K (.int (br : Int)) v2 G := p2
  have ho : ∀ b, o0 = some b → b < pl.rates.length := ho
  have k : ∀ v G', Ex G G' → Dj G' F → D K (.bool (onLine pl.above br o0)) v G' → Q v (un G' F) := k
  have hn5 := hp.n2
  refine s_for dj (ei_range1 (K := K) (n := 9) (ev_int 9) (by omega)) fun G1 e1 d1 => ⟨fun i σ G' F' => F' = F ∧ ∃ (o : Option Nat) (x : V), onLine pl.above br o = onLine pl.above br o0 ∧ (∀ b, o = some b → b + i < pl.rates.length) ∧ (o = none → i ≤ 5) ∧ D K (eOpt o) x G' ∧ ∃ o3, σ = [some v0, some x, some v2, o3], ⟨rfl, o0, v1, rfl, ho, fun _ => Nat.zero_le _, p1.ex e1, none, rfl⟩, ?_, ?_, ?_⟩
  · rintro i n y σ' G2 F' hi e2 d2 r ⟨rfl, o, x, hol, hb, h0, hx, o3, rfl⟩
    have e := e1.trans e2
    refine (eg_name (G := G2)) G2 (Ex.refl _) _ d2 _ fun σ2 hs2 => ?_
    subst hs2
    refine s_if d2 (b := decide (o = some br)) ((et_test (ev_eqD (ev_v (i := 1) rfl hx) (ev_v (i := 2) rfl (p2.ex e)) (shapedOpt _) rfl)).of eqvOptI) (fun hs G3 e3 d3 => ?_) fun hs G3 e3 d3 => s_nx ?_
    · have hs : o = some br := of_decide_eq_true hs
      subst hs
      refine s_ret d3 (ev_bl (K := K) true) fun v G4 e4 d4 q => k v G4 (e.trans (e3.trans e4)) d4 ?_
      have z : onLine pl.above br (some br) = true := by
        cases hu : up pl.above br with
        | none => rw [onLine_none hu]; simp
        | some q => rw [onLine_some hp.tr hu]; simp
      rw [← hol, z]
      exact q
    · have hs : ¬ o = some br := of_decide_eq_false hs
      have E3 := e.trans e3
      refine s_if d3 (et_B (ev_isN (ev_v (i := 1) rfl (hx.ex e3)))) (fun hn G4 e4 d4 => ?_) fun hn G4 e4 d4 => s_nx ?_
      · rw [isN_opt] at hn
        cases o with
        | none =>
          refine s_ret d4 (ev_bl (K := K) false) fun v G5 e5 d5 q => k v G5 (E3.trans (e4.trans e5)) d5 ?_
          rw [← hol]
          exact q
        | some b => cases hn
      · rw [isN_opt] at hn
        cases o with
        | none => cases hn
        | some b =>
          have hbb := hb b rfl
          have hbl : b < pl.rates.length := by omega
          have hne : ¬ b = br := fun z => hs (by rw [z])
          have hx' : D K (.int (b : Int)) x G2 := hx
          refine s_set d4 (ev_ixT (i := b) (ev_ixT (i := 1) (ev_v rfl (p0.ex (E3.trans e4))) (ev_int 1) rfl) (ev_v rfl (hx'.ex (e3.trans e4))) (up_at hp hbl)) fun v G5 e5 d5 pv => s_nx (s_iv ((e2.trans e3).trans (e4.trans e5)) d5 rfl ⟨rfl, up pl.above b, v, ?_, fun b' hb' => ?_, (fun h => by omega), pv, _, rfl⟩)
          · rw [← hol]
            cases hu : up pl.above b with
            | none =>
              rw [onLine_none hu, decide_eq_false hne]
              rfl
            | some q => rw [onLine_some hp.tr hu, decide_eq_false hne, Bool.or_false]
          · have hlt := up_lt hp.tr hb'
            omega
  · rintro i σ' G0 G' F' e ⟨rfl, o, x, h1, h2, h3, h4, h5⟩
    exact ⟨rfl, o, x, h1, h2, h3, h4.ex e, h5⟩
  · rintro σ' G2 F' e2 d2 ⟨rfl, o, x, hpw, hb, h0, hx, o3, rfl⟩
    rw [List.length_range] at hb h0
    cases o with
    | none => exact absurd (h0 rfl) (by decide)
    | some b => exact absurd (hb b rfl) (by omega)

end
end Bf
set_option Elab.async false
set_option linter.all false
set_option maxRecDepth 100000
set_option maxHeartbeats 4000000
namespace Bf
open PySem PyProof.Rows L2
section
variable {P : Program} {w : World} {K : PySem.W.Frag} {mg : Str → Option Value} {base : Heap} {C : Addr}
/-! ### the law's reading of currents -/
theorem zip_range {α β : Type} {a : List α} {b : List β} (da : α) (db : β) (h : b.length = a.length) : a.zip b = (List.range b.length).map fun k => (a.getD k da, b.getD k db) := by
  refine List.ext_getElem (by rw [List.length_zip, List.length_map, List.length_range]; omega) fun i h1 h2 => ?_
  have hb : i < b.length := by rw [List.length_map, List.length_range] at h2; exact h2
  have ha : i < a.length := by omega
  rw [List.getElem_zip, List.getElem_map, List.getElem_range, List.getD_eq_getElem?_getD, List.getD_eq_getElem?_getD, List.getElem?_eq_getElem ha, List.getElem?_eq_getElem hb]
  rfl
theorem flows_eq {pl : PlanD} {wir : List (Option Nat)} {st : List Bool} {loads : Loads} {i : Nat} (h : wir.length = pl.points.length) : (((litL pl wir st).filter fun k => onLine pl.above i (wir.getD k none)).map fun k => loadOf loads (pl.names.getD k "")).sum = cur pl wir st loads i := by
  unfold cur curOf litL
  have hn : wir.length = pl.names.length := by unfold PlanD.names; rw [List.length_map]; exact h
  rw [zip_range ("" : Str) none hn, List.filter_map, List.map_map, List.filter_filter]
  have : (fun a => onLine pl.above i (wir.getD a none) && hasPw pl.above st (wir.getD a none)) = (addsTo pl st i ∘ fun k => (pl.names.getD k "", wir.getD k none)) := by
    funext a
    show _ = (hasPw pl.above st (wir.getD a none) && onLine pl.above i (wir.getD a none))
    rw [Bool.and_comm]
  rw [this]
  rfl
theorem point_at {pl : PlanD} {k : Nat} (h : k < pl.points.length) : ∃ pt, (pl.points.map ePoint)[k]? = some (ePoint pt) ∧ pl.points[k]? = some pt ∧ pl.names.getD k "" = pt.1 := by
  refine ⟨pl.points[k], by rw [List.getElem?_map, List.getElem?_eq_getElem h]; rfl, List.getElem?_eq_getElem h, ?_⟩
  unfold PlanD.names
  rw [List.getD_eq_getElem?_getD, List.getElem?_map, List.getElem?_eq_getElem h]
  rfl
theorem fd__law_flows (F : Df K mg "_law_flows" st__law_flows) (T : Txf mg) (D1 : FD P w K mg base 1 "_law_under" ps__law_under (sp__law_under K C)) (D2 : FD P w K mg base 2 "_law_lit" ps__law_lit (sp__law_lit K C)) : FD P w K mg base 3 "_law_flows" ps__law_flows (sp__law_flows K C) := by
  refine fd_S F sc__law_flows rfl (fun _ _ _ _ _ _ us hl => match us, hl with | [_, _, _, _], _ => rfl) fun f cdv A outer s H E hr => ⟨_, dv__law_flows (C := C) T D1 D2 hr, ?_⟩
  rintro vs Q ⟨pl, rest, wir, st, loads⟩ G F dj al ⟨hp, hw, hst⟩ k
  obtain ⟨v0, v1, v2, v3, rfl, p0, p1, p2, p3⟩ := al4 al
  have hp : PlOk pl := hp
  have hw : WirOk pl wir := hw
  have p0 : D K (eS pl rest) v0 G := p0
  have p1 : D K (.tuple (wir.map eOpt)) v1 G := p1
  have p2 : D K (eBools st) v2 G := p2
  have p3 : Dk K (eLoads loads) v3 G := p3
  have part : ∀ {σ : St} {G' : Hp} (i : Nat) {d : PyData}, σ[0]? = some (some v0) → Ex G G' → (eParts pl ++ rest)[i]? = some d → Ev (tOp (rIx K) (tVar 0) (tC (.int (i : Int)))) σ G' (D K d) := fun {σ G'} i {d} h0 e h => ev_ixT (i := i) (ev_v h0 ((show D K (.tuple (eParts pl ++ rest)) v0 G from p0).ex e)) (ev_int _) h
  have hn5 := hp.p2
  have hr5 := hp.n2
  have hwl := hw.1
  refine s_set dj (c__law_lit (pl, rest, wir, st) (ea_d (ev_v rfl p0) (ea_d (ev_v rfl p1) (ea_d (ev_v rfl p2) ea_nil))) ⟨hp, hw, hst⟩) fun v4 G1 e1 d1 q4 => ?_
  have q4 : D K (.list ((litL pl wir st).map fun (n : Nat) => PyData.int (n : Int))) v4 G1 := q4
  have hlit : (litL pl wir st).length ≤ 5 := by
    unfold litL
    have := List.length_filter_le (fun k => hasPw pl.above st (wir.getD k none)) (List.range wir.length)
    rw [List.length_range] at this
    omega
  refine s_new d1 fun p n1 n2 d2 => ?_
  refine s_for d2 (ei_range1 (K := K) (n := pl.rates.length) ((ev_lenT (part 0 (d := .tuple (pl.rates.map PyData.int)) rfl e1 rfl)).of (by rw [List.length_map])) (by omega)) fun G2 e2 d2 => ⟨fun i σ G' F' => ∃ xs : List V, F' = upd F p (.lst xs) ∧ DpAll K G' xs ((List.range i).map fun b => .int (cur pl wir st loads b)) ∧ ∃ o6, σ = [some v0, some v1, some v2, some v3, some v4, some (.ref p), o6, none], ⟨[], rfl, .nil, none, rfl⟩, ?_, ?_, ?_⟩
  · rintro i br x σ' G3 F' hi e3 d3 r ⟨xs, rfl, hx, o6, rfl⟩
    have hil : i < pl.rates.length := by
      have := (List.getElem?_eq_some_iff.mp hi).1
      rwa [List.length_range] at this
    have hbr : br = i := by
      rw [List.getElem?_range hil] at hi
      exact (Option.some.inj hi).symm
    subst hbr
    have E3 := e1.trans (e2.trans e3)
    have r : D K (.int (br : Int)) x G3 := r
    have hxl := dpA_len hx
    rw [List.length_map, List.length_range] at hxl
    refine (eg_name (G := G3)) G3 (Ex.refl _) _ d3 _ fun σ2 hs2 => ?_
    subst hs2
    refine s_app d3 upd_same rfl (by omega) (ev_sumM (Ev.l (e_lcN (K := K) (xs := litL pl wir st) (enc := fun (n : Nat) => PyData.int (n : Nat)) (fun j => onLine pl.above br (wir.getD j none)) (fun j => PyData.int (loadOf loads (pl.names.getD j ""))) (ei_list (ev_v rfl (q4.ex (e2.trans e3)))) (by omega) (fun _ => rfl) (fun j y G' hm e ry => ?_) fun j y G' hm e ry hf => ?_))) fun v G4 e4 d4 qv => ?_
    · have hj : j < wir.length := List.mem_range.mp (List.mem_filter.mp hm).1
      have ry : D K (.int (j : Int)) y G' := ry
      exact et_B (c__law_under (pl, rest, wir.getD j none, br) (ea_d (ev_v rfl (p0.ex (E3.trans e))) (ea_d (ev_ixT (i := j) (ev_v rfl (p1.ex (E3.trans e))) (ev_v rfl ry) (wir_at hj)) (ea_d (ev_v rfl (r.ex e)) ea_nil))) ⟨hp, wir_lt hw hj⟩)
    · have hj : j < wir.length := List.mem_range.mp (List.mem_filter.mp hm).1
      have ry : D K (.int (j : Int)) y G' := ry
      obtain ⟨pt, hpt, _, hnm⟩ := point_at (pl := pl) (k := j) (by omega)
      refine (ev_dget2 (s := pt.1) (d := .int 0) (ev_var rfl mo_Dk (mo_Dk _ _ _ (E3.trans e) p3)) (ev_ixT (i := 0) (ev_ixT (i := j) (part 2 (d := .tuple (pl.points.map ePoint)) rfl (E3.trans e) rfl) (ev_v rfl ry) hpt) (ev_int 0) rfl) (ev_int 0)).of ?_
      rw [getK_loads, hnm]
    · rw [upd_upd] at d4 ⊢
      refine s_nx (s_iv (e3.trans e4) d4 rfl ⟨_, rfl, ?_, _, rfl⟩)
      rw [List.range_succ, List.map_append]
      refine dpA_app (dpA_ex e4 _ _ hx) (.cons ?_ .nil)
      show D K (.int (cur pl wir st loads br)) v G4
      rw [← flows_eq hwl]
      exact qv
  · rintro i σ' G0 G' F' e ⟨xs, rfl, hx, o⟩
    exact ⟨xs, rfl, dpA_ex e _ _ hx, o⟩
  · rintro σ' G3 F' e3 d3 ⟨xs, rfl, hx, o6, rfl⟩
    rw [List.length_range] at hx
    have n3 : G3 p = none := d3.n upd_same
    rw [upd_lr n3]
    have d4 : Dj (upd G3 p (.lst xs)) F := (d3.off n2).newL n2
    refine s_ret d4 (ev_v (K := K) rfl (dLst upd_same (dpA_ex (Ex.new n3) _ _ hx))) fun v G4 e4 d5 q => k v G4 ((e1.trans (e2.trans e3)).trans ((Ex.new n3).trans e4)) d5 ?_
    show D K (.list ((curs pl wir st loads).map PyData.int)) v G4
    unfold curs
    rw [List.map_map]
    exact q
/-! ### the first of the sorted pairs -/
theorem ahead_iff {rates : List Int} {j i : Nat} : ahead rates j i = true ↔ rates.getD j 0 < rates.getD i 0 ∨ (rates.getD j 0 = rates.getD i 0 ∧ i < j) := by
  unfold ahead
  rw [Bool.or_eq_true, Bool.and_eq_true, decide_eq_true_eq, decide_eq_true_eq, decide_eq_true_eq]
theorem pickN_first {rates : List Int} : ∀ (is : List Nat) (i : Nat), ∀ x ∈ i :: is, ahead rates x (pickN rates i is) = false
  | [], i, x, hx => by
    rcases List.mem_singleton.mp hx with rfl
    show ahead rates x x = false
    cases h : ahead rates x x with
    | false => rfl
    | true => rw [ahead_iff] at h; omega
  | j :: is, i, x, hx => by
    rw [pickN]
    have ih := pickN_first (rates := rates) is (if ahead rates j i then j else i)
    have hb := ih _ List.mem_cons_self
    generalize hp : pickN rates (if ahead rates j i then j else i) is = pk at *
    cases hx2 : ahead rates x pk with
    | false => rfl
    | true =>
      exfalso
      rw [ahead_iff] at hx2
      by_cases hc : ahead rates j i = true
      · rw [if_pos hc] at hb ih
        rw [ahead_iff] at hc
        have hb' : ¬ ahead rates j pk = true := by rw [hb]; exact Bool.false_ne_true
        rw [ahead_iff] at hb'
        rcases List.mem_cons.mp hx with rfl | hx
        · omega
        · rcases List.mem_cons.mp hx with rfl | hx
          · omega
          · have := ih x (List.mem_cons_of_mem _ hx)
            have this : ¬ ahead rates x pk = true := by rw [this]; exact Bool.false_ne_true
            rw [ahead_iff] at this
            omega
      · rw [if_neg hc] at hb ih
        rw [ahead_iff] at hc
        have hb' : ¬ ahead rates i pk = true := by rw [hb]; exact Bool.false_ne_true
        rw [ahead_iff] at hb'
        rcases List.mem_cons.mp hx with rfl | hx
        · omega
        · rcases List.mem_cons.mp hx with rfl | hx
          · omega
          · have := ih x (List.mem_cons_of_mem _ hx)
            have this : ¬ ahead rates x pk = true := by rw [this]; exact Bool.false_ne_true
            rw [ahead_iff] at this
            omega
theorem sort_first {rates : List Int} {i : Nat} {is : List Nat} : ∃ js : List Nat, (((i :: is).map (oPair rates)).mergeSort (PySem.W.dataLe false id)) = (pickN rates i is :: js).map (oPair rates) := by
  have hs : ∀ a b : Nat, (!ahead rates b a) = PySem.W.dataLe false id (oPair rates a) (oPair rates b) := fun a b => by
    show _ = !PySem.W.dataLt (oPair rates b) (oPair rates a)
    rw [lt_oPair]
  rw [← List.map_mergeSort (r := fun a b => !ahead rates b a) fun a _ b _ => hs a b]
  have hperm := List.mergeSort_perm (i :: is) (fun a b => !ahead rates b a)
  have hsort := List.pairwise_mergeSort (le := fun a b => !ahead rates b a) (fun a b c h1 h2 => by
    have h1 : ¬ ahead rates b a = true := by simpa using h1
    have h2 : ¬ ahead rates c b = true := by simpa using h2
    rw [ahead_iff] at h1 h2
    show (!ahead rates c a) = true
    cases h : ahead rates c a with
    | false => rfl
    | true => rw [ahead_iff] at h; omega) (fun a b => by
    show (!ahead rates b a || !ahead rates a b) = true
    cases h : ahead rates b a with
    | false => rfl
    | true =>
      cases h' : ahead rates a b with
      | false => rfl
      | true => rw [ahead_iff] at h h'; omega) (i :: is)
  generalize hl : (i :: is).mergeSort (fun a b => !ahead rates b a) = l at *
  cases l with
  | nil =>
    have := hperm.length_eq
    cases this
  | cons h t =>
    have hh : h ∈ i :: is := hperm.mem_iff.mp List.mem_cons_self
    have h1 := pickN_first (rates := rates) is i h hh
    have hk : pickN rates i is ∈ h :: t := hperm.mem_iff.mpr (pickN_mem is i)
    rcases List.mem_cons.mp hk with e | hk
    · exact ⟨t, by rw [e]⟩
    · have h2 := (List.pairwise_cons.mp hsort).1 _ hk
      have h2 : ¬ ahead rates (pickN rates i is) h = true := by simpa using h2
      have h1 : ¬ ahead rates h (pickN rates i is) = true := by rw [h1]; exact Bool.false_ne_true
      rw [ahead_iff] at h1 h2
      have : h = pickN rates i is := by omega
      exact ⟨t, by rw [this]⟩

end
end Bf
set_option Elab.async false
set_option linter.all false
set_option maxRecDepth 100000
set_option maxHeartbeats 4000000
namespace Bf
open PySem PyProof.Rows L2
section
variable {P : Program} {w : World} {K : PySem.W.Frag} {mg : Str → Option Value} {base : Heap} {C : Addr}
/-! ### _law_tripped -/
theorem set_range {st : List Bool} {pk : Nat} : ((List.range st.length).map fun k => PyData.bool (st.getD k false && !decide (k = pk))) = (st.set pk false).map PyData.bool := by
  refine List.ext_getElem (by rw [List.length_map, List.length_map, List.length_range, List.length_set]) fun i h1 h2 => ?_
  have hi : i < st.length := by rwa [List.length_map, List.length_range] at h1
  rw [List.getElem_map, List.getElem_range, List.getElem_map, List.getElem_set, List.getD_eq_getElem?_getD, List.getElem?_eq_getElem hi]
  by_cases h : pk = i
  · subst h
    rw [if_pos rfl, decide_eq_true rfl]
    simp
  · rw [if_neg h, decide_eq_false (fun z => h z.symm)]
    simp
theorem fd__law_tripped (F : Df K mg "_law_tripped" st__law_tripped) (T : Txf mg) (D1 : FD P w K mg base 3 "_law_flows" ps__law_flows (sp__law_flows K C)) : FD P w K mg base 4 "_law_tripped" ps__law_tripped (sp__law_tripped K C) := by
  refine fd_S F sc__law_tripped rfl (fun _ _ _ _ _ _ us hl => match us, hl with | [_, _, _, _], _ => rfl) fun f cdv A outer s H E hr => ⟨_, dv__law_tripped (C := C) T D1 hr, ?_⟩
  rintro vs Q ⟨pl, rest, wir, st, loads⟩ G F dj al ⟨⟨hp, hw, hl⟩, _⟩ k
  obtain ⟨v0, v1, v2, v3, rfl, p0, p1, p2, p3⟩ := al4 al
  have hp : PlOk pl := hp
  have hw : WirOk pl wir := hw
  have hl : st.length = pl.rates.length := hl
  have p0 : D K (eS pl rest) v0 G := p0
  have p1 : D K (eOpts wir) v1 G := p1
  have p2 : D K (eBools st) v2 G := p2
  have p3 : Dk K (eLoads loads) v3 G := p3
  have hn := hp.n2
  have part : ∀ {σ : St} {G' : Hp} (i : Nat) {d : PyData}, σ[0]? = some (some v0) → Ex G G' → (eParts pl ++ rest)[i]? = some d → Ev (tOp (rIx K) (tVar 0) (tC (.int (i : Int)))) σ G' (D K d) := fun {σ G'} i {d} h0 e h => ev_ixT (i := i) (ev_v h0 ((show D K (.tuple (eParts pl ++ rest)) v0 G from p0).ex e)) (ev_int _) h
  refine s_new dj fun p n1 n2 d1 => ?_
  -- (state, tuple(numbers))
  have fin : ∀ {G3 : Hp} {x2 : V} {st' : List Bool} {ns : List Nat} {o5 o6 o7 o8 o9 : Option V} {tz : TS}, Ex G G3 → Dj G3 (upd F p (.lst (ns.map fun (n : Nat) => V.int (n : Int)))) → D K (eBools st') x2 G3 → trips pl wir st loads = (st', ns) → ∀ E : Ends, E.rt = Q → tSeq (tRet (tTup (tCons (tVar 2) (tCons (tCB (rTupC K) (tCons (tVar 4) (tNil))) (tNil))))) tz E [some v0, some v1, some x2, some v3, some (.ref p), o5, o6, o7, o8, o9] (un G3 (upd F p (.lst (ns.map fun (n : Nat) => V.int (n : Int))))) := by
    intro G3 x2 st' ns o5 o6 o7 o8 o9 tz e3 d3 q2 htr E hE
    have n3 : G3 p = none := d3.n upd_same
    rw [upd_lr n3]
    have d4 : Dj (upd G3 p (.lst (ns.map fun (n : Nat) => V.int (n : Int)))) F := (d3.off n2).newL n2
    refine s_ret d4 (ev_tup (ds := [eBools st', .tuple (eNats ns)]) (ea_d (ev_v rfl (q2.ex (Ex.new n3))) (ea_d (ev_tupL (ev_v rfl (dLst upd_same (natsV ns)))) ea_nil)) (by simp)) fun v G5 e5 d5 q => ?_
    rw [hE]
    refine k v G5 (e3.trans ((Ex.new n3).trans e5)) d5 ?_
    show D K (.tuple [eBools (trips pl wir st loads).1, .tuple (eNats (trips pl wir st loads).2)]) v G5
    rw [htr]
    exact q
  refine s_for d1 (ei_range1 (K := K) (n := 9) (ev_int 9) (by omega)) fun G1 e1 d1 => ⟨fun i σ G' F' => ∃ (st' : List Bool) (ns : List Nat) (x2 : V), F' = upd F p (.lst (ns.map fun (n : Nat) => V.int (n : Int))) ∧ D K (eBools st') x2 G' ∧ st'.length = pl.rates.length ∧ trips pl wir st loads = ((trips pl wir st' loads).1, ns ++ (trips pl wir st' loads).2) ∧ ns.length + cTrue st' ≤ 5 ∧ ns.length = i ∧ ∃ o5 o6 o8 o9, σ = [some v0, some v1, some x2, some v3, some (.ref p), o5, o6, none, o8, o9],
    ⟨st, [], v2, rfl, p2.ex e1, hl, rfl, by have := cTrue_le st; simp; omega, rfl, none, none, none, none, rfl⟩, ?_, ?_, ?_⟩
  · rintro i t x σ' G2 F' hi e2 d2 r ⟨st', ns, x2, rfl, q2, hl', htr, hfu, hnl, o5, o6, o8, o9, rfl⟩
    have E2 := e1.trans e2
    refine (eg_name (G := G2)) G2 (Ex.refl _) _ d2 _ fun σ2 hs2 => ?_
    subst hs2
    refine s_set d2 (c__law_flows (pl, rest, wir, st', loads) (ea_d (ev_v rfl (p0.ex E2)) (ea_d (ev_v rfl (p1.ex E2)) (ea_d (ev_v rfl q2) (ea_cons (ev_var rfl mo_Dk (mo_Dk _ _ _ E2 p3)) mo_Dk ea_nil)))) ⟨hp, hw, hl'⟩) fun v6 G3 e3 d3 q6 => ?_
    have q6 : D K (.list ((curs pl wir st' loads).map PyData.int)) v6 G3 := q6
    have hcl : (curs pl wir st' loads).length = pl.rates.length := by unfold curs; rw [List.length_map, List.length_range]
    have E3 := E2.trans e3
    have rates : ∀ {σ : St} {G' : Hp} {j : Nat} {te : TE}, σ[0]? = some (some v0) → Ex G3 G' → j < pl.rates.length → Ev te σ G' (D K (.int (j : Int))) → Ev (tOp (rIx K) (tOp (rIx K) (tVar 0) (tC (.int 0))) te) σ G' (D K (.int (pl.rates.getD j 0))) := fun {σ G' j te} h0 e hj h => ev_ixT (i := j) (part 0 (d := .tuple (pl.rates.map PyData.int)) h0 (E3.trans e) rfl) h (rates_get hj)
    refine s_set d3 (ev_sortP (ds := (over pl wir st' loads).map (oPair pl.rates)) (Ev.l (e_lcN (enc := fun (i : Nat) => PyData.int (i : Int)) (fun i => decide (pl.rates.getD i 0 < cur pl wir st' loads i)) (oPair pl.rates) (ei_range1 ((ev_lenL (ev_v rfl q6)).of (by rw [List.length_map, hcl])) (by omega)) (by rw [List.length_range]; omega) (fun _ => rfl) (fun j y G' hm e ry => ?_) fun j y G' hm e ry hf => ?_)) (PySem.W.AllAlike.of fun b b' => alike_oPair) (PySem.W.Sortable.tuples fun b => ⟨_, _, rfl⟩) (fun d hd => Nat.le_trans (fine_o (n := 1) d hd).2 (by omega))) fun v8 G4 e4 d4 q8 => ?_
    · have hj := List.mem_range.mp hm
      have ry : D K (.int (j : Int)) y G' := ry
      exact et_test (ev_gt (ev_ixL (i := j) (ev_v rfl (q6.ex e)) (ev_v rfl ry) (curs_get hj)) (rates rfl e hj (ev_v rfl ry)))
    · have hj := List.mem_range.mp hm
      have ry : D K (.int (j : Int)) y G' := ry
      exact ev_tup (ds := [.int (pl.rates.getD j 0), .int (0 - (j : Int))]) (ea_d (rates rfl e hj (ev_v rfl ry)) (ea_d (ev_sub (ev_int 0) (ev_v rfl ry)) ea_nil)) (by simp)
    · have E4 := E3.trans e4
      have q2' := (q2.ex e3).ex e4
      cases ho : over pl wir st' loads with
      | nil =>
        rw [ho] at q8
        have q8 : D K (.list []) v8 G4 := by
          have z := q8.d
          simpa using z
        refine s_yes d4 ((et_test (ev_eqD (ev_v rfl q8) (Ev.l (ev_lst0 (K := K) (ds := []) ea_nil (by simp))) rfl rfl)).of (by rw [eqv_nil]; rfl)) fun G5 e5 d5 => ?_
        rw [trips_nil ho, List.append_nil] at htr
        exact fin (E4.trans e5) d5 (q2'.ex e5) htr _ rfl
      | cons i0 is =>
        rw [ho] at q8
        obtain ⟨js, hjs⟩ := sort_first (rates := pl.rates) (i := i0) (is := is)
        rw [hjs] at q8
        have q8 : D K (.list ((pickN pl.rates i0 is :: js).map (oPair pl.rates))) v8 G4 := q8.d
        have hm := pickN_mem (rates := pl.rates) is i0
        rw [← ho] at hm
        have hon := over_on hp hm
        have hc := cTrue_set hon.2
        have htc := trips_cons hp hl' ho
        generalize hpk : pickN pl.rates i0 is = pk at *
        refine s_no d4 ((et_test (ev_eqD (ev_v rfl q8) (Ev.l (ev_lst0 (K := K) (ds := []) ea_nil (by simp))) ((fine_list (n := 1) fine_o).shaped (by omega)) rfl)).of (by rw [eqv_nil]; rfl)) fun G5 e5 d5 => s_nx ?_
        refine s_set d5 ((ev_sub (ev_int 0) (ev_ixT (i := 1) (ds := [.int (pl.rates.getD pk 0), .int (0 - (pk : Int))]) (ev_ixL (i := 0) (ev_v rfl (q8.ex e5)) (ev_int 0) rfl) (ev_int 1) rfl)).of (d' := .int ((pk : Nat) : Int)) (by congr 1; omega)) fun v9 G6 e6 d6 q9 => ?_
        refine s_app d6 upd_same rfl (by rw [List.length_map]; omega) (ev_v rfl q9) fun v G7 e7 d7 qv => ?_
        obtain rfl := qv.int
        rw [upd_upd] at d7 ⊢
        have q9' := q9.ex e7
        have q2'' : D K (.tuple (st'.map PyData.bool)) x2 G7 := ((q2'.ex e5).ex e6).ex e7
        refine s_set d7 ((ev_tupL (Ev.l (e_lcM (K := K) (xs := List.range st'.length) (enc := fun (n : Nat) => PyData.int (n : Nat)) (fun j => PyData.bool (st'.getD j false && !decide (j = pk))) (ei_range1 ((ev_lenT (ev_v rfl q2'')).of (by rw [List.length_map])) (by omega)) (by rw [List.length_range]; omega) (fun _ => rfl) fun j y G' hm e ry => ?_))).of (d' := eBools (st'.set pk false)) (by rw [set_range]; rfl)) fun x2' G8 e8 d8 q2n => ?_
        · have hj := List.mem_range.mp hm
          have ry : D K (.int (j : Int)) y G' := ry
          refine ev_andV (ev_ixT (i := j) (ev_v rfl (q2''.ex e)) (ev_v rfl ry) (st_at hj)) fun _ => (ev_neD (d := .int (j : Int)) (e := .int (pk : Int)) (ev_v rfl ry) (ev_v rfl (q9'.ex e)) rfl rfl).of ?_
          congr 2
          show ((j : Int) == (pk : Int)) = _
          rw [Bool.beq_eq_decide_eq]
          exact decide_eq_decide.mpr (by omega)
        · refine s_nx (s_iv ((e2.trans e3).trans ((e4.trans e5).trans ((e6.trans e7).trans e8))) d8 rfl ⟨st'.set pk false, ns ++ [pk], x2', by rw [List.map_append]; rfl, q2n, by rw [List.length_set]; exact hl', ?_, ?_, ?_, _, _, _, _, rfl⟩)
          · rw [htr, htc]
            simp
          · simp
            omega
          · simp
            exact hnl
  · rintro i σ' G0 G' F' e ⟨st', ns, x2, h1, h2, h3⟩
    exact ⟨st', ns, x2, h1, h2.ex e, h3⟩
  · rintro σ' G2 F' e2 d2 ⟨st', ns, x2, rfl, q2, hl', htr, hfu, hnl, o5, o6, o8, o9, rfl⟩
    rw [List.length_range] at hnl
    omega

end
end Bf
set_option Elab.async false
set_option linter.all false
set_option maxRecDepth 100000
set_option maxHeartbeats 4000000
namespace Bf
open PySem PyProof.Rows L2
section
variable {P : Program} {w : World} {K : PySem.W.Frag} {mg : Str → Option Value} {base : Heap} {C : Addr}
/-! ### _law_wirings -/
def PartOk (pl : PlanD) (k : Nat) (w : List (Option Nat)) : Prop := w.length = k ∧ (∀ b, some b ∈ w → b < pl.rates.length) ∧ Follows pl w
/-- points j and k are of one kind and room -/
def alikeP (pl : PlanD) (k j : Nat) : Bool := match pl.points[j]?, pl.points[k]? with
  | some a, some b => decide (a.2.1 = b.2.1 ∧ a.2.2 = b.2.2)
  | _, _ => false
theorem part_end {pl : PlanD} {k : Nat} {w : List (Option Nat)} (h : PartOk pl k w) (hk : k = pl.points.length) : WirOk pl w ∧ Follows pl w := ⟨⟨h.1.trans hk, h.2.1⟩, h.2.2⟩
/-- one more point -/
theorem part_step {pl : PlanD} {k : Nat} {w : List (Option Nat)} {o : Option Nat} (h : PartOk pl k w) (ho : ∀ b, o = some b → b < pl.rates.length)
    (hf : pl.rule = "free" ∨ ∀ pk, pl.points[k]? = some pk → pk.2.1 = "lamp" → ∀ i a, i < k → w[i]? = some a → alikeP pl k i = true → a = o) : PartOk pl (k + 1) (w ++ [o]) := by
  obtain ⟨h1, h2, h3⟩ := h
  refine ⟨by rw [List.length_append, h1]; rfl, fun b hb => ?_, ?_⟩
  · rcases List.mem_append.mp hb with hb | hb
    · exact h2 b hb
    · exact ho b (List.mem_singleton.mp hb).symm
  · rcases h3 with h3 | h3
    · exact .inl h3
    · rcases hf with hf | hf
      · exact .inl hf
      · refine .inr fun i j p q a b hp hq ha hb l1 l2 hr => ?_
        have get : ∀ (i : Nat) (a : Option Nat), (w ++ [o])[i]? = some a → (i < k ∧ w[i]? = some a) ∨ (i = k ∧ a = o) := fun i a h => by
          by_cases hi : i < w.length
          · rw [List.getElem?_append_left hi] at h
            exact .inl ⟨by omega, h⟩
          · have hl := (List.getElem?_eq_some_iff.mp h).1
            rw [List.length_append] at hl
            have hl : i < w.length + 1 := hl
            have e : i = w.length := by omega
            subst e
            rw [List.getElem?_append_right (Nat.le_refl _), Nat.sub_self] at h
            exact .inr ⟨h1, (Option.some.inj h).symm⟩
        have al : ∀ {i : Nat} {p q : Str × Str × Int}, pl.points[i]? = some p → pl.points[k]? = some q → p.2.1 = "lamp" → q.2.1 = "lamp" → p.2.2 = q.2.2 → alikeP pl k i = true := fun hp hq l1 l2 hr => by
          unfold alikeP
          rw [hp, hq]
          exact decide_eq_true ⟨l1.trans l2.symm, hr⟩
        rcases get i a ha with ⟨hi, ha'⟩ | ⟨ei, ea⟩
        · rcases get j b hb with ⟨hj, hb'⟩ | ⟨ej, eb⟩
          · exact h3 i j p q a b hp hq ha' hb' l1 l2 hr
          · rw [ej] at hq
            rw [eb]
            exact hf q hq l2 i a hi ha' (al hp hq l1 l2 hr)
        · rw [ei] at hp
          rcases get j b hb with ⟨hj, hb'⟩ | ⟨ej, eb⟩
          · rw [ea]
            exact (hf p hp l1 j b hj hb' (al hq hp l2 l1 hr.symm)).symm
          · rw [ea, eb]
theorem part_fed {pl : PlanD} {k j0 : Nat} {w : List (Option Nat)} (h : PartOk pl k w) (hk : k < pl.points.length) (hj : j0 < k) (hal : alikeP pl k j0 = true) : PartOk pl (k + 1) (w ++ [w.getD j0 none]) := by
  have hjw : j0 < w.length := by rw [h.1]; exact hj
  have hget : w[j0]? = some (w.getD j0 none) := by rw [List.getD_eq_getElem?_getD, List.getElem?_eq_getElem hjw]; rfl
  refine part_step h (fun b hb => h.2.1 b (hb ▸ List.mem_of_getElem? hget)) ?_
  rcases h.2.2 with h3 | h3
  · exact .inl h3
  · refine .inr fun pk hpk hlamp i a hi ha hai => ?_
    have hp0 : pl.points[j0]? = some pl.points[j0] := List.getElem?_eq_getElem (by omega)
    have hpi : pl.points[i]? = some pl.points[i] := List.getElem?_eq_getElem (by omega)
    unfold alikeP at hal hai
    rw [hp0, hpk] at hal
    rw [hpi, hpk] at hai
    have hal := of_decide_eq_true hal
    have hai := of_decide_eq_true hai
    exact h3 i j0 _ _ a _ hpi hp0 ha hget (hai.1.trans hlamp) (hal.1.trans hlamp) (hai.2.trans hal.2.symm)
theorem part_free {pl : PlanD} {k : Nat} {w : List (Option Nat)} {o : Option Nat} (h : PartOk pl k w) (ho : ∀ b, o = some b → b < pl.rates.length) (hf : pl.rule = "free" ∨ (∀ pk, pl.points[k]? = some pk → pk.2.1 ≠ "lamp") ∨ ∀ j, j < k → alikeP pl k j = false) : PartOk pl (k + 1) (w ++ [o]) := by
  refine part_step h ho ?_
  rcases hf with hf | hf | hf
  · exact .inl hf
  · exact .inr fun pk hpk hl => absurd hl (hf pk hpk)
  · exact .inr fun pk hpk hl i a hi ha hai => by rw [hf i hi] at hai; cases hai
theorem s_plusP {σ : St} {G F : Hp} {te : TE} {E : Ends} {tz : TS} {i : Nat} {p : Addr} {xs : List V} {ds : List PyData} (dj : Dj G (upd F p (.lst xs))) (fp : F p = none) (h0 : σ[i]? = some (some (.ref p))) (he : Ev te σ G (Lx K ds)) (hz : xs.length + ds.length ≤ 1000) (k : ∀ q ys G', Ex G G' → F q = none → Dj G' (upd F q (.lst (xs ++ ys))) → DpAll K G' ys ds → tz E (σ.set i (some (.ref q))) (un G' (upd F q (.lst (xs ++ ys))))) : tSeq (tAsg (tOp (rPlus3 K) (tVar i) te) (gName i)) tz E σ (un G (upd F p (.lst xs))) :=
  ⟨_, h0, he.run dj fun v G2 e2 d2 ⟨b, ys, hv, h1, h2⟩ => by
    subst hv
    refine .inr (.inl ⟨p, b, xs, ys, rfl, rfl, un_r d2 upd_same, un_l h1, Nat.le_of_lt (small1000 (by rw [dpA_len h2]; exact hz)), fun q hn => ?_⟩)
    have gp : G2 p = none := d2.n upd_same
    have hpq : q ≠ p := fun e => by subst e; rw [un_r d2 upd_same] at hn; cases hn
    obtain ⟨n1, n2⟩ := un_no hn
    rw [upd_ne hpq] at n2
    show tz E (σ.set i (some (.ref q))) (upd (un G2 (upd F p (.lst xs))) q (.lst (xs ++ ys)))
    rw [upd_lr gp, upd_r (by rw [upd_ne hpq]; exact n1)]
    exact k q ys _ (e2.trans (Ex.new gp)) n2 (((d2.off fp).newL fp).newR (by rw [upd_ne hpq]; exact n1)) (dpA_ex (Ex.new gp) _ _ h2)⟩
theorem fd__law_wirings (F : Df K mg "_law_wirings" st__law_wirings) (T : Txf mg) : FD P w K mg base 1 "_law_wirings" ps__law_wirings (sp__law_wirings K C) := by
  refine fd_S F sc__law_wirings rfl (fun _ _ _ _ _ _ us hl => match us, hl with | [_], _ => rfl) fun f cdv A outer s H E hr => ⟨_, dv__law_wirings (C := C) T hr, ?_⟩
  rintro vs Q pl G F dj al ⟨hp, hr3, hp4⟩ k
  obtain ⟨v0, rfl, p0⟩ := al1 al
  have hp : PlOk pl := hp
  have p0 : D K (.tuple [eRates pl.rates, eOpts pl.above, ePoints pl.points, .str pl.rule]) v0 G := p0
  have part : ∀ {σ : St} {G' : Hp} (i : Nat) {d : PyData}, σ[0]? = some (some v0) → Ex G G' → (eParts pl)[i]? = some d → Ev (tOp (rIx K) (tVar 0) (tC (.int (i : Int)))) σ G' (D K d) := fun {σ G'} i {d} h0 e h => ev_ixT (i := i) (ev_v h0 (p0.ex e)) (ev_int _) h
  refine s_set dj (ev_lst (K := K) (ds := [.tuple []]) (ea_d (ev_tup (ds := []) ea_nil (by simp)) ea_nil) (by simp)) fun v1 G1 e1 d1 q1 => ?_
  refine s_for d1 (ei_range1 (K := K) (n := pl.points.length) ((ev_lenT (part 2 (d := .tuple (pl.points.map ePoint)) rfl e1 rfl)).of (by rw [List.length_map])) (by omega)) fun G2 e2 d2 => ⟨fun i σ G' F' => F' = F ∧ ∃ (ws : List (List (Option Nat))) (x1 : V), D K (.list (ws.map eOpts)) x1 G' ∧ ws ≠ [] ∧ ws.length ≤ 4 ^ i ∧ (∀ w ∈ ws, PartOk pl i w) ∧ ∃ o2 o3 o4 o6, σ = [some v0, some x1, o2, o3, o4, none, o6, none],
    ⟨rfl, [[]], v1, q1.ex e2, by simp, by simp, fun w hw => by rcases List.mem_singleton.mp hw with rfl; exact ⟨rfl, (fun b h => nomatch h), .inr fun i j p q a b _ _ h => by simp at h⟩, none, none, none, none, rfl⟩, ?_, ?_, ?_⟩
  · rintro i kk x σ' G3 F' hi e3 d3 r ⟨rfl, ws, x1, hws, hne, hwl, hok, o2, o3, o4, o6, rfl⟩
    have hil : i < pl.points.length := by
      have := (List.getElem?_eq_some_iff.mp hi).1
      rwa [List.length_range] at this
    have hkk : kk = i := by
      rw [List.getElem?_range hil] at hi
      exact (Option.some.inj hi).symm
    subst hkk
    have r : D K (.int (kk : Int)) x G3 := r
    have E3 := e1.trans (e2.trans e3)
    have h256 : ws.length ≤ 4 ^ 3 := Nat.le_trans hwl (Nat.pow_le_pow_right (by decide) (by omega))
    have h64 : (4 : Nat) ^ 3 = 64 := by decide
    obtain ⟨ptk, hptk, hpk, _⟩ := point_at hil
    have hkind := (hp.pk ptk (List.mem_of_getElem? hpk)).1
    refine (eg_name (G := G3)) G3 (Ex.refl _) _ d3 _ fun σ2 hs2 => ?_
    subst hs2
    refine s_new d3 fun p n1 n2 d4 => ?_
    refine s_for d4 (ei_list (as := ws) (enc := eOpts) (ev_v rfl hws)) fun G4 e4 d4 => ⟨fun i σ G' F2 => ∃ (p : Addr) (xs : List V) (ls : List (List (Option Nat))), F2 = upd F' p (.lst xs) ∧ F' p = none ∧ DpAll K G' xs (ls.map eOpts) ∧ ls.length ≤ 4 * i ∧ (1 ≤ i → ls ≠ []) ∧ (∀ w ∈ ls, PartOk pl (kk + 1) w) ∧ ∃ o4 o6, σ = [some v0, some x1, some x, some (.ref p), o4, none, o6, none],
      ⟨p, [], [], rfl, n2, .nil, Nat.le_refl _, (fun h => absurd h (by decide)), (fun w h => nomatch h), _, _, rfl⟩, ?_, ?_, ?_⟩
    · rintro i wv y σ' G5 F2 hi2 e5 d5 ry ⟨p, xs, ls, rfl, fp, hx, hll, hln, hlok, o4, o6, rfl⟩
      have ry : D K (.tuple (wv.map eOpt)) y G5 := ry
      have hwv := hok wv (List.mem_of_getElem? hi2)
      have hil2 := (List.getElem?_eq_some_iff.mp hi2).1
      have hxl := dpA_len hx
      rw [List.length_map] at hxl
      have E5 := E3.trans (e4.trans e5)
      refine (eg_name (G := G5)) G5 (Ex.refl _) _ d5 _ fun σ2 hs2 => ?_
      subst hs2
      have r5 := r.ex (e4.trans e5)
      refine s_set d5 (Ev.l (e_lcN (K := K) (xs := List.range kk) (enc := fun (n : Nat) => PyData.int (n : Nat)) (alikeP pl kk) (fun j => eOpt (wv.getD j none)) (ei_range1 (ev_v rfl r5) (by omega)) (by rw [List.length_range]; omega) (fun _ => rfl) (fun j z G' hm e rz => ?_) fun j z G' hm e rz hf => ?_)) fun v6 G6 e6 d6 q6 => ?_
      · have hj : j < kk := List.mem_range.mp hm
        have rz : D K (.int (j : Int)) z G' := rz
        obtain ⟨ptj, hptj, hpj, _⟩ := point_at (pl := pl) (k := j) (by omega)
        have hkj := (hp.pk ptj (List.mem_of_getElem? hpj)).1
        refine (et_test (ev_eqD (ev_cutT (lo := some ((1 : Nat) : Int)) (hi := none) (ev_ixT (i := j) (part 2 (d := .tuple (pl.points.map ePoint)) rfl (E5.trans e) rfl) (ev_v rfl rz) hptj) (eo_some (K := K) (ev_int 1)) eo_none) (ev_cutT (lo := some ((1 : Nat) : Int)) (hi := none) (ev_ixT (i := kk) (part 2 (d := .tuple (pl.points.map ePoint)) rfl (E5.trans e) rfl) (ev_v rfl (r5.ex e)) hptk) (eo_some (K := K) (ev_int 1)) eo_none) ?_ ?_)).of ?_
        · rw [cut_from]
          exact (fine_tup (n := 1) (ds := [.str ptj.2.1, .int ptj.2.2]) fun d hd => by
            rcases List.mem_cons.mp hd with rfl | hd
            · refine ⟨?_, by simp [PyData.depth]⟩
              rcases hkj with h | h <;> rw [h] <;> decide +kernel
            · rcases List.mem_singleton.mp hd with rfl
              exact fine_int _).shaped (by omega)
        · rw [cut_from]
          exact (fine_tup (n := 1) (ds := [.str ptk.2.1, .int ptk.2.2]) fun d hd => by
            rcases List.mem_cons.mp hd with rfl | hd
            · refine ⟨?_, by simp [PyData.depth]⟩
              rcases hkind with h | h <;> rw [h] <;> decide +kernel
            · rcases List.mem_singleton.mp hd with rfl
              exact fine_int _).shaped (by omega)
        · rw [cut_from, cut_from]
          show PyData.eqv (.tuple [.str ptj.2.1, .int ptj.2.2]) (.tuple [.str ptk.2.1, .int ptk.2.2]) = _
          unfold alikeP
          rw [hpj, hpk]
          show _ = decide (ptj.2.1 = ptk.2.1 ∧ ptj.2.2 = ptk.2.2)
          simp only [PyData.eqv, PyData.eqvAll, Bool.and_true]
          rw [Bool.beq_eq_decide_eq, Bool.beq_eq_decide_eq, Bool.decide_and]
      · have hj : j < kk := List.mem_range.mp hm
        have rz : D K (.int (j : Int)) z G' := rz
        exact ev_ixT (i := j) (ev_v rfl (ry.ex e)) (ev_v rfl rz) (wir_at (by rw [hwv.1]; exact hj))
      · have E6 := E5.trans e6
        have q6 : D K (.list (((List.range kk).filter (alikeP pl kk)).map fun j => eOpt (wv.getD j none))) v6 G6 := q6
        have fineO : ∀ (l : List Nat), ∀ d ∈ l.map (fun j => eOpt (wv.getD j none)), Fine 1 d := fun l d hd => by
          obtain ⟨j, _, rfl⟩ := List.mem_map.mp hd
          cases wv.getD j none with
          | none => exact fine_non
          | some b => exact fine_int _
        refine s_if d6 (b := decide (pl.rule = "rooms") && (decide (ptk.2.1 = "lamp") && !decide (((List.range kk).filter (alikeP pl kk)).map (fun j => eOpt (wv.getD j none)) = []))) (et_and ((et_test (ev_eqD (part 3 (d := .str pl.rule) rfl E6 rfl) (ev_str "rooms") (shapedR (hp.ru.elim .inl fun q => .inr (.inl q))) (shapedR (.inr (.inl rfl))))).of eqvStr) fun _ => et_and ((et_test (ev_eqD (ev_ixT (i := 1) (ds := [.str ptk.1, .str ptk.2.1, .int ptk.2.2]) (ev_ixT (i := kk) (part 2 (d := .tuple (pl.points.map ePoint)) rfl E6 rfl) (ev_v rfl (r5.ex e6)) hptk) (ev_int 1) rfl) (ev_str "lamp") (shapedR (hkind.elim (fun q => .inr (.inr (.inl q))) fun q => .inr (.inr (.inr q)))) (shapedR (.inr (.inr (.inl rfl)))))).of eqvStr) fun _ => (et_test (ev_neD (ev_v rfl q6) (Ev.l (ev_lst0 (K := K) (ds := []) ea_nil (by simp))) ((fine_list (fineO _)).shaped (by omega)) rfl)).of (by rw [eqv_nil])) (fun hb G7 e7 d7 => ?_) fun hb G7 e7 d7 => ?_
        · -- fed as the first of its kind
          rw [Bool.and_eq_true, Bool.and_eq_true] at hb
          obtain ⟨_, _, hb⟩ := hb
          obtain ⟨j0, js, hjs⟩ : ∃ j0 js, (List.range kk).filter (alikeP pl kk) = j0 :: js := by
            cases hl : (List.range kk).filter (alikeP pl kk) with
            | nil => rw [hl] at hb; simp at hb
            | cons a b => exact ⟨a, b, rfl⟩
          have hm0 : j0 ∈ (List.range kk).filter (alikeP pl kk) := by rw [hjs]; exact List.mem_cons_self
          obtain ⟨hm1, hm2⟩ := List.mem_filter.mp hm0
          have hj0 := List.mem_range.mp hm1
          rw [hjs] at q6
          refine s_app d7 upd_same rfl (by omega) ((ev_plusT (ev_v rfl ((ry.ex e6).ex e7)) (ev_tup (ds := [eOpt (wv.getD j0 none)]) (ea_d (ev_ixL (i := 0) (ev_v rfl (q6.ex e7)) (ev_int 0) rfl) ea_nil) (by simp)) (by rw [List.length_map, hwv.1]; simp; omega)).of (d' := eOpts (wv ++ [wv.getD j0 none])) (by unfold eOpts; rw [List.map_append]; rfl)) fun v G8 e8 d8 qv => ?_
          rw [upd_upd] at d8 ⊢
          refine s_nx (s_nx (s_iv ((e5.trans e6).trans (e7.trans e8)) d8 rfl ⟨p, _, ls ++ [wv ++ [wv.getD j0 none]], rfl, fp, ?_, ?_, (fun _ h => by simp at h), ?_, _, _, rfl⟩))
          · rw [List.map_append]
            exact dpA_app (dpA_ex ((e6.trans e7).trans e8) _ _ hx) (.cons qv .nil)
          · rw [List.length_append]
            simp
            omega
          · intro w' hw'
            rcases List.mem_append.mp hw' with h | h
            · exact hlok w' h
            · rcases List.mem_singleton.mp h with rfl
              exact part_fed hwv hil hj0 hm2
        · have E7 := E6.trans e7
          refine s_plusP (K := K) (ds := (none :: (List.range pl.rates.length).map some).map fun o => eOpts (wv ++ [o])) d7 fp rfl (e_lcM (xs := none :: (List.range pl.rates.length).map some) (enc := eOpt) (fun o => eOpts (wv ++ [o])) (ei_list ((ev_plusL (ev_lst0 (K := K) (ds := [.none]) (ea_d (ev_non (K := K)) ea_nil) (by simp)) (ev_lstRg (n := pl.rates.length) ((ev_lenT (part 0 (d := .tuple (pl.rates.map PyData.int)) rfl E7 rfl)).of (by rw [List.length_map])) (by omega)) (by rw [List.length_map, List.length_range]; simp; omega)).imp fun v G' _ q => by rw [List.map_cons, List.map_map]; exact q.d)) (by rw [List.length_cons, List.length_map, List.length_range]; omega) (fun _ => rfl) fun o z G' hm e rz => (ev_plusT (ev_v rfl (((ry.ex e6).ex e7).ex e)) (ev_tup (ds := [eOpt o]) (ea_d (ev_v rfl rz) ea_nil) (by simp)) (by rw [List.length_map, hwv.1]; simp; omega)).of (by unfold eOpts; rw [List.map_append]; rfl)) (by simp; omega) fun q ys G8 e8 fq d8 hy => ?_
          refine s_nx (s_nx (s_iv ((e5.trans e6).trans (e7.trans e8)) d8 rfl ⟨q, _, ls ++ (none :: (List.range pl.rates.length).map some).map (fun o => wv ++ [o]), rfl, fq, ?_, ?_, (fun _ h => by simp at h), ?_, _, _, rfl⟩))
          · rw [List.map_append, List.map_map]
            exact dpA_app (dpA_ex ((e6.trans e7).trans e8) _ _ hx) hy
          · simp
            omega
          · intro w' hw'
            rcases List.mem_append.mp hw' with h | h
            · exact hlok w' h
            · obtain ⟨o, ho, rfl⟩ := List.mem_map.mp h
              refine part_free hwv (fun b hb => ?_) ?_
              · subst hb
                rcases List.mem_cons.mp ho with h | h
                · cases h
                · obtain ⟨c, hc, he⟩ := List.mem_map.mp h
                  cases he
                  exact List.mem_range.mp hc
              · rcases hp.ru with hru | hru
                · exact .inl hru
                · rw [hru, decide_eq_true rfl, Bool.true_and] at hb
                  by_cases hlm : ptk.2.1 = "lamp"
                  · rw [decide_eq_true hlm, Bool.true_and] at hb
                    refine .inr (.inr fun j hj => ?_)
                    have hnil : (List.range kk).filter (alikeP pl kk) = [] := by
                      simpa using hb
                    cases hc : alikeP pl kk j with
                    | false => rfl
                    | true =>
                      have : j ∈ (List.range kk).filter (alikeP pl kk) := List.mem_filter.mpr ⟨List.mem_range.mpr hj, hc⟩
                      rw [hnil] at this
                      cases this
                  · refine .inr (.inl fun pk' hpk' => ?_)
                    rw [hpk] at hpk'
                    cases hpk'
                    exact hlm
    · rintro i σ' G0 G' F2 e ⟨p, xs, ls, h1, h2, h3, h4⟩
      exact ⟨p, xs, ls, h1, h2, dpA_ex e _ _ h3, h4⟩
    · rintro σ' G5 F2 e5 d5 ⟨p, xs, ls, rfl, fp, hx, hll, hln, hlok, o4, o6, rfl⟩
      have n3 : G5 p = none := d5.n upd_same
      rw [upd_lr n3]
      have d6 : Dj (upd G5 p (.lst xs)) F' := (d5.off fp).newL fp
      refine s_set d6 (ev_v (K := K) (i := 3) rfl (dLst upd_same (dpA_ex (Ex.new n3) _ _ hx))) fun v7 G7 e7 d7 q7 => s_nx (s_iv ((e3.trans e4).trans (e5.trans ((Ex.new n3).trans e7))) d7 rfl ⟨rfl, ls, v7, q7, hln ?_, ?_, hlok, _, _, _, _, rfl⟩)
      · exact List.length_pos_iff.mpr hne
      · rw [Nat.pow_succ]
        omega
  · rintro i σ' G0 G' F' e ⟨h1, ws, x1, h2, h3⟩
    exact ⟨h1, ws, x1, h2.ex e, h3⟩
  · rintro σ' G3 F' e3 d3 ⟨rfl, ws, x1, hws, hne, hwl, hok, o2, o3, o4, o6, rfl⟩
    rw [List.length_range] at hwl hok
    refine s_ret d3 (ev_v rfl hws) fun v G4 e4 d4 q => k v G4 (e1.trans (e2.trans (e3.trans e4))) d4 ⟨ws, hne, ?_, fun w hw => part_end (hok w hw) rfl, q⟩
    exact Nat.le_trans hwl (Nat.le_trans (Nat.pow_le_pow_right (by decide) hp4) (by decide))

end
end Bf
set_option Elab.async false
set_option linter.all false
set_option maxRecDepth 100000
set_option maxHeartbeats 4000000
namespace Bf
open PySem PyProof.Rows L2
section
variable {P : Program} {w : World} {K : PySem.W.Frag} {mg : Str → Option Value} {base : Heap} {C : Addr}
/-! ### _law_day -/
theorem ev_repA {σ : St} {G : Hp} {ta tb : TE} {d : PyData} {k : Nat} (ha : Ev ta σ G (D K (.tuple [d]))) (hb : Ev tb σ G (D K (.int k))) (h1 : 1 ≤ k) (h3 : k ≤ 1000) : Ev (tOp (rRepA K) ta tb) σ G (D K (.tuple (List.replicate k d))) := by
  by_cases h2 : 2 ≤ k
  · exact fun G1 e F dj Q q => ha G1 e F dj _ fun x G2 e2 d2 p => hb G2 (e.trans e2) F d2 _ fun y G3 e3 d3 p2 => .inl ((ev_rep1 (σ := σ) (ev_cp (p.ex e3)) (ev_cp p2) h2 h3) G3 (Ex.refl _) F d3 Q fun v G4 e4 d4 pv => q v G4 ((e2.trans e3).trans e4) d4 pv)
  · have : k = 1 := by omega
    subst this
    refine ev_op ha hb mo_D fun x y G1 F Q e dj p1 p2 q => .inr ?_
    obtain ⟨a, xs, rfl, h1, hx⟩ := D.tup p1
    obtain rfl := p2.int
    exact ⟨a, xs, rfl, rfl, sqT_ex ex_un h1, q _ G1 (Ex.refl _) dj p1⟩
/-- the pairs of a dict of ints -/
def intKs (l : Loads) : List (Key × V) := l.map fun p => (Sum.inr p.1, .int p.2)
theorem intKs_kds {G : Hp} : ∀ l : Loads, KDs K G (intKs l) (eLoads l)
  | [] => .nil
  | p :: l => .cons ⟨rfl, dInt _⟩ (intKs_kds l)
/-- what draws at an hour, as the law counts it -/
def drawAt (loads : Loads) (ts : Timers) (n h : Nat) (l : Loads) : Loads := (l.filter fun p => dayOn ts n p.1 && hourOn ts h p.1).map fun p => (p.1, loadOf loads p.1)
theorem drawAt_all {loads : Loads} {ts : Timers} {n h : Nat} : drawAt loads ts n h loads = loadsAt loads ts (namesOn loads ts n) h := by
  unfold drawAt loadsAt namesOn
  rw [List.filter_filter, List.filter_map, List.map_map]
  have : (fun p : Str × Int => dayOn ts n p.1 && hourOn ts h p.1) = ((fun a => hourOn ts h a && dayOn ts n a) ∘ Prod.fst) := by
    funext p
    exact Bool.and_comm _ _
  rw [this]
  rfl
theorem drawAt_snoc {loads : Loads} {ts : Timers} {n h : Nat} {l : Loads} {p : Str × Int} : drawAt loads ts n h (l ++ [p]) = drawAt loads ts n h l ++ if dayOn ts n p.1 && hourOn ts h p.1 then [(p.1, loadOf loads p.1)] else [] := by
  unfold drawAt
  rw [List.filter_append, List.map_append]
  congr 1
  by_cases hc : (dayOn ts n p.1 && hourOn ts h p.1) = true
  · rw [if_pos hc, List.filter_cons_of_pos (by simpa using hc)]
    rfl
  · rw [if_neg hc, List.filter_cons_of_neg (by simpa using hc)]
    rfl
theorem fd__law_day (F : Df K mg "_law_day" st__law_day) (T : Txf mg) (D1 : FD P w K mg base 4 "_law_tripped" ps__law_tripped (sp__law_tripped K C)) : FD P w K mg base 5 "_law_day" ps__law_day (sp__law_day K C) := by
  refine fd_S F sc__law_day rfl (fun _ _ _ _ _ _ us hl => match us, hl with | [_, _, _, _, _], _ => rfl) fun f cdv A outer s H E hr => ⟨_, dv__law_day (C := C) T D1 hr, ?_⟩
  rintro vs Q ⟨pl, rest, wir, loads, ts, n⟩ G F dj al ⟨hp, hw, hld, hts⟩ k
  obtain ⟨v0, v1, v2, v3, v4, rfl, p0, p1, p2, p3, p4⟩ := al5 al
  have hp : PlOk pl := hp
  have hw : WirOk pl wir := hw
  have hld : LdOk pl loads := hld
  have hts : ∀ p ∈ ts, TmOk p.2 := hts
  have p0 : D K (eS pl rest) v0 G := p0
  have p1 : D K (eOpts wir) v1 G := p1
  have p2 : Dx K (eLoads loads) v2 G := p2
  have p3 : Dk K (eTimers ts) v3 G := p3
  have p4 : D K (.int (n : Int)) v4 G := p4
  have hn5 := hp.n2
  have hl5 := hld.2.1
  have hn1 := hp.n1
  obtain ⟨la, lvs, rfl, hla, hlk⟩ := p2
  have hlvl : lvs.length = loads.length := by
    have z : lvs.length = _ := Paired.length hlk
    unfold eLoads at z
    rwa [List.length_map] at z
  have tv : ∀ m, 1 ≤ (tmOf ts m).v := fun m => by
    unfold tmOf
    cases e : getK ts m with
    | none => exact Nat.le_refl _
    | some t => exact (hts _ (getK_mem e)).2.2.2.1
  have part : ∀ {σ : St} {G' : Hp} (i : Nat) {d : PyData}, σ[0]? = some (some v0) → Ex G G' → (eParts pl ++ rest)[i]? = some d → Ev (tOp (rIx K) (tVar 0) (tC (.int (i : Int)))) σ G' (D K d) := fun {σ G'} i {d} h0 e h => ev_ixT (i := i) (ev_v h0 ((show D K (.tuple (eParts pl ++ rest)) v0 G from p0).ex e)) (ev_int _) h
  generalize hld' : loadsAt loads ts (namesOn loads ts n) = ld at *
  refine s_par dj (P1 := D K (eBools (dayF pl wir ld 0).1)) (P2 := Lx K []) (ev_repA (ev_tup (ds := [.bool true]) (ea_d (ev_bl true) ea_nil) (by simp)) ((ev_lenT (part 0 (d := .tuple (pl.rates.map PyData.int)) rfl (Ex.refl _) rfl)).of (by rw [List.length_map])) hn1 (by omega) |>.of ?_) mo_D (fun G' e => ev_lst0 (K := K) (ds := []) ea_nil (by simp)) fun v5 v6 G1 e1 d1 q5 q6 => ?_
  · show _ = eBools (allOn pl)
    unfold eBools allOn
    rw [List.map_replicate]
  refine s_for d1 (ei_range1 (K := K) (n := 24) (ev_int 24) (by omega)) fun G2 e2 d2 => ⟨fun i σ G' F' => F' = F ∧ ∃ x5 x6, D K (eBools (dayF pl wir ld i).1) x5 G' ∧ Lx K (ePairs (dayF pl wir ld i).2) x6 G' ∧ ∃ o7 o8 o9 o10 o11, σ = [some v0, some v1, some (.ref la), some v3, some v4, some x5, some x6, o7, o8, o9, o10, o11, none], ⟨rfl, v5, v6, q5.ex e2, mo_Lx _ _ _ e2 q6, none, none, none, none, none, rfl⟩, ?_, ?_, ?_⟩
  · rintro i h x σ' G3 F' hi e3 d3 r ⟨rfl, x5, x6, h5, h6, o7, o8, o9, o10, o11, rfl⟩
    have hlt : i < 24 := by
      have := (List.getElem?_eq_some_iff.mp hi).1
      rwa [List.length_range] at this
    have hih : h = i := by
      rw [List.getElem?_range hlt] at hi
      exact (Option.some.inj hi).symm
    subst hih
    have r : D K (.int (h : Int)) x G3 := r
    have E3 := e1.trans (e2.trans e3)
    obtain ⟨l1, l2⟩ := dayF_len (pl := pl) (wir := wir) (ld := ld) h
    have hl2 : (dayF pl wir ld h).2.length ≤ 24 * 5 := Nat.le_trans l2 (Nat.mul_le_mul (Nat.le_of_lt hlt) hn5)
    obtain ⟨t1, t2⟩ := trips_len (pl := pl) (wir := wir) (loads := ld h) pl.rates.length (dayF pl wir ld h).1
    refine (eg_name (G := G3)) G3 (Ex.refl _) _ d3 _ fun σ2 hs2 => ?_
    subst hs2
    refine s_dnew d3 fun p n1 n2 d4 => ?_
    have ha3 := E3 _ _ hla
    have hk3 := kds_ex E3 hlk
    refine s_lock d4 ha3 fun od D' hnx hrt d5 => ?_
    have hk4 := kds_frz (od := od) ha3 hk3
    have g3 := dk_frz (od := od) ha3 (mo_Dk _ _ _ E3 p3)
    have gl := dk_frz (od := od) ha3 (⟨la, lvs, rfl, .inl ha3, hk3⟩ : Dk K (eLoads loads) (.ref la) G3)
    have g4 : D K (.int (n : Int)) v4 (upd G3 la (.frz od (.dK lvs))) := dp_frz ha3 _ _ (p4.ex E3)
    have gh : D K (.int (h : Int)) x (upd G3 la (.frz od (.dK lvs))) := dp_frz ha3 _ _ r
    refine s_for d5 (ei_keys (as := loads) (enc := PyData.int) (i := 2) rfl upd_same hk4) fun G4 e4 d4 => ⟨fun j σ G' F2 => F2 = upd F' p (.dK (intKs (drawAt loads ts n h (loads.take j)))) ∧ ∃ o9 o10, σ = [some v0, some v1, some (.ref la), some v3, some v4, some x5, some x6, some x, some (.ref p), o9, o10, o11, none], ⟨rfl, _, _, rfl⟩, ?_, fun _ _ _ _ _ _ h => h, ?_⟩
    · rintro j pq y σ' G5 F2 hj e5 d5 ry ⟨rfl, o9, o10, rfl⟩
      obtain ⟨nm, ld0⟩ := pq
      have ry : D K (.str nm) y G5 := ry
      have e45 := e4.trans e5
      have tk := take_snoc hj
      have hm : (nm, ld0) ∈ loads := List.mem_of_getElem? hj
      refine (eg_name (G := G5)) G5 (Ex.refl _) _ d5 _ fun σ2 hs2 => ?_
      subst hs2
      refine s_set (P := D K (eTm (tmOf ts nm))) d5 ?_ fun v10 G6 e6 d6 pv => ?_
      · refine (ev_dget2 (s := nm) (d := eTm ⟨0, 24, 1⟩) (ev_var rfl mo_Dk (mo_Dk _ _ _ e45 g3)) (ev_v rfl ry) (ev_tup (ds := [.int 0, .int 24, .int 1]) (ea_d (ev_int 0) (ea_d (ev_int 24) (ea_d (ev_int 1) ea_nil))) (by simp))).of ?_
        rw [getK_timers]
        unfold tmOf
        cases getK ts nm <;> rfl
      · have pv : D K (.tuple [.int ((tmOf ts nm).b : Int), .int ((tmOf ts nm).e : Int), .int ((tmOf ts nm).v : Int)]) v10 G6 := pv
        have e46 := e45.trans e6
        have htv := tv nm
        refine s_if d6 (b := dayOn ts n nm && hourOn ts h nm) (et_and ((et_test (ev_eqD (ev_mod (ev_v rfl (g4.ex e46)) (ev_ixT (i := 2) (ev_v rfl pv) (ev_int 2) rfl) (by omega)) (ev_int 0) rfl rfl)).of ?_) fun _ => (et_test (ev_chain (g := fun i j => decide (i ≤ j)) (g' := fun i j => decide (i < j)) (ev_ixT (i := 0) (ev_v rfl pv) (ev_int 0) rfl) (ev_v rfl (gh.ex e46)) (ev_ixT (i := 1) (ev_v rfl pv) (ev_int 1) rfl))).of ?_) (fun hb G7 e7 d7 => ?_) fun hb G7 e7 d7 => ?_
        · rw [eqvI]
          unfold dayOn
          apply decide_eq_decide.mpr
          omega
        · unfold hourOn
          congr 1
          · exact decide_eq_decide.mpr (by omega)
          · exact decide_eq_decide.mpr (by omega)
        · have hlo : getK (eLoads loads) nm = some (.int (loadOf loads nm)) := by
            obtain ⟨c, hc⟩ := getK_some (List.mem_map.mpr ⟨_, hm, rfl⟩ : nm ∈ loads.map Prod.fst)
            have : getK (eLoads loads) nm = some (.int c) := by
              rw [show eLoads loads = loads.map fun p => (p.1, PyData.int p.2) from rfl, getK_map PyData.int, hc]
              rfl
            rw [this]
            unfold loadOf
            rw [hc]
            rfl
          have hnew : nm ∉ (drawAt loads ts n h (loads.take j)).map Prod.fst := by
            intro hmm
            have hni : (loads.map Prod.fst)[j]? = some nm := by rw [List.getElem?_map, hj]; rfl
            refine nodup_at (asc_nodup hld.1) hni ?_
            obtain ⟨q, hq, rfl⟩ := List.mem_map.mp hmm
            obtain ⟨q', hq', rfl⟩ := List.mem_map.mp hq
            rw [← List.map_take]
            exact List.mem_map.mpr ⟨q', (List.mem_filter.mp hq').1, rfl⟩
          have hnone : valV (intKs (drawAt loads ts n h (loads.take j))) (Sum.inr nm : Key) = none := by
            have z := kds_get (s := nm) (intKs_kds (K := K) (G := G7) (drawAt loads ts n h (loads.take j)))
            rw [getK_none (by rw [eLoads_keys]; exact hnew)] at z
            exact z
          have hdl : (intKs (drawAt loads ts n h (loads.take j))).length ≤ 1000 := by
            unfold intKs drawAt
            rw [List.length_map, List.length_map]
            have := List.length_filter_le (fun p : Str × Int => dayOn ts n p.1 && hourOn ts h p.1) (loads.take j)
            rw [List.length_take] at this
            omega
          refine s_dput d7 upd_same rfl hdl (ev_dget (s := nm) (d := .int (loadOf loads nm)) (ev_var rfl mo_Dk (mo_Dk _ _ _ (e46.trans e7) gl)) (ev_v rfl ((ry.ex e6).ex e7)) hlo) mo_D (fun G' e' => ev_v rfl (((ry.ex e6).ex e7).ex e')) hnone fun v' G8 e8 d8 q8 => ?_
          obtain rfl := q8.int
          rw [upd_upd] at d8 ⊢
          refine s_nx (s_nx (s_iv ((e5.trans e6).trans (e7.trans e8)) d8 rfl ⟨?_, _, _, rfl⟩))
          rw [tk, drawAt_snoc, if_pos hb]
          unfold intKs
          rw [List.map_append]
          rfl
        · refine s_nx (s_nx (s_iv ((e5.trans e6).trans e7) d7 rfl ⟨?_, _, _, rfl⟩))
          rw [tk, drawAt_snoc, if_neg (by rw [hb]; decide), List.append_nil]
    · rintro σ' G5 F2 e5 d5 ⟨rfl, o9, o10, rfl⟩
      rw [List.take_length, drawAt_all, hld'] at d5 ⊢
      refine s_nx (hnx _ G5 _ (e4.trans e5) d5 ?_)
      have e6 := ex_thaw ha3 (e4.trans e5)
      have fla : (upd F' p (.dK (intKs (ld h)))) la = none := d5 la _ ((e4.trans e5) _ _ upd_same)
      have d6 : Dj (upd G5 la (.dK lvs)) (upd F' p (.dK (intKs (ld h)))) := d5.newL fla
      generalize hG6 : upd G5 la (.dK lvs) = G6 at *
      have n3 : G6 p = none := d6.n upd_same
      rw [upd_lr n3]
      have d7 : Dj (upd G6 p (.dK (intKs (ld h)))) F' := (d6.off n2).newL n2
      have e7 : Ex G3 (upd G6 p (.dK (intKs (ld h)))) := e6.trans (Ex.new n3)
      have E7 := E3.trans e7
      refine s_tgt d7 (c__law_tripped (pl, rest, wir, (dayF pl wir ld h).1, ld h) (ea_d (ev_v rfl (p0.ex E7)) (ea_d (ev_v rfl (p1.ex E7)) (ea_d (ev_v rfl (h5.ex e7)) (ea_cons (ev_var rfl mo_Dk ⟨p, _, rfl, .inl upd_same, intKs_kds _⟩) mo_Dk ea_nil)))) ⟨⟨hp, hw, l1⟩, by rw [← hld']; exact loadsAt_ge hld ts _ h⟩) fun v G8 e8 d8 pv => ?_
      refine (eg_pair pv) G8 (Ex.refl _) _ d8 _ fun σ3 ⟨a, b, hs3, r1, r2⟩ => ?_
      subst hs3
      have r1 : D K (eBools (trips pl wir (dayF pl wir ld h).1 (ld h)).1) a G8 := r1
      have r2 : D K (.tuple (eNats (trips pl wir (dayF pl wir ld h).1 (ld h)).2)) b G8 := r2
      have t2' : (trips pl wir (dayF pl wir ld h).1 (ld h)).2.length ≤ pl.rates.length := t2
      refine s_set d8 (ev_plusL (ev_var rfl mo_Lx (mo_Lx _ _ _ (e7.trans e8) h6)) (e_lcM (xs := (trips pl wir (dayF pl wir ld h).1 (ld h)).2) (enc := fun (n : Nat) => PyData.int (n : Int)) (fun bb => ePair (h, bb)) (ei_tup (ev_v rfl r2)) (by omega) (fun _ => rfl) fun bb y G' hm e' ry => ev_tup (ds := [.int (h : Int), .int (bb : Int)]) (ea_d (ev_v rfl (((r.ex e7).ex e8).ex e')) (ea_d (ev_v rfl ry) ea_nil)) (by simp)) (by unfold ePairs; rw [List.length_map, List.length_map]; omega)) fun v6' G9 e9 d9 q9 => ?_
      refine s_nx (s_iv ((e3.trans e7).trans (e8.trans e9)) d9 rfl ⟨rfl, a, v6', ?_, ?_, _, _, _, _, _, rfl⟩)
      · rw [dayF_succ]
        exact r1.ex e9
      · rw [dayF_succ]
        unfold hourStep ePairs
        rw [List.map_append, List.map_map]
        exact q9
  · rintro i σ' G0 G' F' e ⟨h1, x5, x6, h5, h6, o⟩
    exact ⟨h1, x5, x6, h5.ex e, mo_Lx _ _ _ e h6, o⟩
  · rintro σ' G3 F' e3 d3 ⟨rfl, x5, x6, h5, h6, o7, o8, o9, o10, o11, rfl⟩
    rw [List.length_range] at h6
    refine s_ret d3 (ev_v (K := K) rfl h6.d) fun v G4 e4 d4 q => k v G4 (e1.trans (e2.trans (e3.trans e4))) d4 ?_
    show D K (.list (ePairs (dayP pl wir loads ts n))) v G4
    unfold dayP
    rw [hld']
    exact q

end
end Bf
set_option Elab.async false
set_option linter.all false
set_option maxRecDepth 100000
set_option maxHeartbeats 4000000
namespace Bf
open PySem PyProof.Rows L2
section
variable {P : Program} {w : World} {K : PySem.W.Frag} {mg : Str → Option Value} {base : Heap} {C : Addr}
/-! ### drawn data -/
def DE (K : PySem.W.Frag) (R : PyData → Prop) : V → Hp → Prop := fun v G => ∃ d, R d ∧ D K d v G
theorem mo_DE {R : PyData → Prop} : Mo (DE K R) := fun v G G' e ⟨d, h1, h2⟩ => ⟨d, h1, h2.ex e⟩
theorem choose_list {β : Type} {enc : β → PyData} : ∀ (ds : List PyData) (R : Nat → β → Prop), (∀ (i : Nat) d, ds[i]? = some d → ∃ o, d = enc o ∧ R i o) → ∃ os : List β, ds = os.map enc ∧ ∀ (i : Nat) o, os[i]? = some o → R i o
  | [], R, _ => ⟨[], rfl, fun i o h => by simp at h⟩
  | d :: ds, R, h => by
    obtain ⟨o, h1, h2⟩ := h 0 d rfl
    obtain ⟨os, h3, h4⟩ := choose_list ds (fun i => R (i + 1)) fun i d hd => h (i + 1) d hd
    refine ⟨o :: os, by rw [h1, h3]; rfl, fun i x hx => ?_⟩
    cases i with
    | zero => cases hx; exact h2
    | succ i => exact h4 i x hx
section
variable {σ : St} {G F : Hp} {te ta tb tc : TE} {r ap : Addr} {R R1 R2 R3 : PyData → Prop}
theorem ed_tupOf {Rs : List PyData → Prop} (h : EvD te σ G F r ap (fun v G => ∃ ds, Rs ds ∧ Lx K ds v G)) : EvD (tCB (rTupC K) (tCons te tNil)) σ G F r ap (fun v G => ∃ ds, Rs ds ∧ D K (.tuple ds) v G) := fun G1 e p s m ok d Q q =>
  h G1 e p s m ok d _ fun v G2 p2 s2 m2 ok2 e2 d2 ⟨ds, h1, h2⟩ => (ev_tupL (σ := σ) (ev_cp h2.d)) G2 (Ex.refl _) _ d2 Q fun x G3 e3 d3 px => q x G3 p2 s2 m2 ok2 (e2.trans e3) d3 ⟨ds, h1, px⟩
theorem ed_tup1 (h : EvD te σ G F r ap (DE K R)) : EvD (tTup (tCons te tNil)) σ G F r ap (DE K fun d => ∃ e, R e ∧ d = .tuple [e]) := fun G1 e p s m ok d Q q =>
  h G1 e p s m ok d _ fun v G2 p2 s2 m2 ok2 e2 d2 ⟨dd, h1, h2⟩ => (ev_tup (σ := σ) (ta := tCons (tC v) tNil) (ds := [dd]) (ea_d (ev_cp h2) ea_nil) (by simp)) G2 (Ex.refl _) _ d2 Q fun x G3 e3 d3 px => q x G3 p2 s2 m2 ok2 (e2.trans e3) d3 ⟨_, ⟨dd, h1, rfl⟩, px⟩
theorem ed_tup2 (ha : EvD ta σ G F r ap (DE K R1)) (hb : EvD tb σ G F r ap (DE K R2)) : EvD (tTup (tCons ta (tCons tb tNil))) σ G F r ap (DE K fun d => ∃ d1 d2, R1 d1 ∧ R2 d2 ∧ d = .tuple [d1, d2]) := fun G1 e p s m ok d Q q =>
  ha G1 e p s m ok d _ fun u Ga pa sa ma oka ea da ⟨d1, u1, u2⟩ => hb Ga (e.trans ea) pa sa ma oka da _ fun v Gb pb sb mb okb eb db ⟨d2, v1, v2⟩ =>
    (ev_tup (σ := σ) (ta := tCons (tC u) (tCons (tC v) tNil)) (ds := [d1, d2]) (ea_d (ev_cp (u2.ex eb)) (ea_d (ev_cp v2) ea_nil)) (by simp)) Gb (Ex.refl _) _ db Q fun x G3 e3 d3 px => q x G3 pb sb mb okb ((ea.trans eb).trans e3) d3 ⟨_, ⟨d1, d2, u1, v1, rfl⟩, px⟩
theorem ed_tup3 (ha : EvD ta σ G F r ap (DE K R1)) (hb : EvD tb σ G F r ap (DE K R2)) (hc : EvD tc σ G F r ap (DE K R3)) : EvD (tTup (tCons ta (tCons tb (tCons tc tNil)))) σ G F r ap (DE K fun d => ∃ d1 d2 d3, R1 d1 ∧ R2 d2 ∧ R3 d3 ∧ d = .tuple [d1, d2, d3]) := fun G1 e p s m ok d Q q =>
  ha G1 e p s m ok d _ fun u Ga pa sa ma oka ea da ⟨d1, u1, u2⟩ => hb Ga (e.trans ea) pa sa ma oka da _ fun v Gb pb sb mb okb eb db ⟨d2, v1, v2⟩ => hc Gb ((e.trans ea).trans eb) pb sb mb okb db _ fun w Gc pc sc mc okc ec dc ⟨d3, w1, w2⟩ =>
    (ev_tup (σ := σ) (ta := tCons (tC u) (tCons (tC v) (tCons (tC w) tNil))) (ds := [d1, d2, d3]) (ea_d (ev_cp (u2.ex (eb.trans ec))) (ea_d (ev_cp (v2.ex ec)) (ea_d (ev_cp w2) ea_nil))) (by simp)) Gc (Ex.refl _) _ dc Q fun x G3 e3 dj3 px => q x G3 pc sc mc okc (((ea.trans eb).trans ec).trans e3) dj3 ⟨_, ⟨d1, d2, d3, u1, v1, w1, rfl⟩, px⟩
theorem ed_one {dd : PyData} (h : Ev te σ G (D K dd)) : EvD te σ G F r ap (DE K fun d => d = dd) := (ed_of h).imp fun v G' _ q => ⟨dd, rfl, q⟩
end
/-- a draw below n -/
theorem ed_taken {σ : St} {G F : Hp} {r ap : Addr} {ns : List Int} {j : Nat} {te : TE} (n : Nat) (fr : F r = none) (h0 : σ[j]? = some (some (.ref r))) (hd : D K (.list (ns.map PyData.int)) (.ref ap) G) (ha : Ev te σ G (D K (.int (n : Int)))) (h1 : 1 ≤ n) (h2 : n ≤ 1000) : EvD (tCall (sp__law_taken K C) [] E0 (tCons (tVar j) (tCons te tNil))) σ G F r ap (DE K fun d => ∃ i : Nat, i < n ∧ d = .int (i : Int)) :=
  (ed_call (n := 1) (K := K) n fr h0 hd (ea_d ha ea_nil) rfl ⟨h1, h2⟩).imp fun v G' _ ⟨i, hi, hv⟩ => ⟨.int (i : Int), ⟨i, hi, rfl⟩, by subst hv; exact dInt _⟩
theorem ed_pick {σ : St} {G F : Hp} {r ap : Addr} {ns : List Int} {j : Nat} {te : TE} (ds : List PyData) (fr : F r = none) (h0 : σ[j]? = some (some (.ref r))) (hd : D K (.list (ns.map PyData.int)) (.ref ap) G) (ha : Ev te σ G (D K (.list ds))) (h1 : 1 ≤ ds.length) (h2 : ds.length ≤ 1000) : EvD (tCall (sp__law_pick K C) [] E0 (tCons (tVar j) (tCons te tNil))) σ G F r ap (DE K fun d => d ∈ ds) :=
  (ed_call (n := 1) (K := K) ds fr h0 hd (ea_d ha ea_nil) rfl ⟨h1, h2⟩).imp fun v G' _ ⟨d, hd, hv⟩ => ⟨d, hd, hv⟩
/-- an int op on drawn ints -/
theorem ed_int2 {σ : St} {G F : Hp} {r ap : Addr} {ta tb : TE} {rr : R2} {A B Cc : Int → Prop} (g : Int → Int → Int) (ha : EvD ta σ G F r ap (DE K fun d => ∃ i, A i ∧ d = .int i)) (hb : EvD tb σ G F r ap (DE K fun d => ∃ i, B i ∧ d = .int i)) (h : ∀ i j v w G', A i → B j → Ev v σ G' (D K (.int i)) → Ev w σ G' (D K (.int j)) → Ev (tOp rr v w) σ G' (D K (.int (g i j)))) (hc : ∀ i j, A i → B j → Cc (g i j)) : EvD (tOp rr ta tb) σ G F r ap (DE K fun d => ∃ i, Cc i ∧ d = .int i) :=
  ed_bin ha hb mo_DE fun v w G' e ⟨d1, ⟨i, hi, e1⟩, h1⟩ ⟨d2, ⟨j, hj, e2⟩, h2⟩ => by
    subst e1 e2
    exact (h i j _ _ G' hi hj (ev_cp h1) (ev_cp h2)).imp fun v G _ q => ⟨_, ⟨_, hc i j hi hj, rfl⟩, q⟩
theorem ed_takenI {σ : St} {G F : Hp} {r ap : Addr} {ns : List Int} {j : Nat} {te : TE} (n : Nat) (fr : F r = none) (h0 : σ[j]? = some (some (.ref r))) (hd : D K (.list (ns.map PyData.int)) (.ref ap) G) (ha : Ev te σ G (D K (.int (n : Int)))) (h1 : 1 ≤ n) (h2 : n ≤ 1000) : EvD (tCall (sp__law_taken K C) [] E0 (tCons (tVar j) (tCons te tNil))) σ G F r ap (DE K fun d => ∃ i : Int, (0 ≤ i ∧ i < n) ∧ d = .int i) :=
  (ed_taken (C := C) n fr h0 hd ha h1 h2).imp fun v G' _ ⟨d, ⟨i, hi, e⟩, hv⟩ => ⟨d, ⟨(i : Int), ⟨by omega, by omega⟩, e⟩, hv⟩
theorem ed_intc {σ : St} {G F : Hp} {r ap : Addr} {te : TE} {i : Int} (h : Ev te σ G (D K (.int i))) : EvD te σ G F r ap (DE K fun d => ∃ j : Int, j = i ∧ d = .int j) := (ed_of h).imp fun v G' _ q => ⟨_, ⟨i, rfl, rfl⟩, q⟩
/-- a private list of one's own among the drawn becomes data -/
theorem rowF_lr {G F : Hp} {r ap l : Addr} {p s m : Int} {o : HO} (hne : l ≠ r) (fl : F l = none) (d : Dj G (rowF (upd F l o) r ap p s m)) : un G (rowF (upd F l o) r ap p s m) = un (upd G l o) (rowF F r ap p s m) ∧ Dj (upd G l o) (rowF F r ap p s m) ∧ G l = none := by
  have z : rowF (upd F l o) r ap p s m = upd (rowF F r ap p s m) l o := upd_comm hne
  have gl : G l = none := d.n (by show upd _ r _ l = _; rw [upd_ne hne, upd_same])
  have fl' : rowF F r ap p s m l = none := by show upd _ r _ l = _; rw [upd_ne hne]; exact fl
  rw [z] at d ⊢
  exact ⟨upd_lr gl, (d.off fl').newL fl', gl⟩
/-! ### _law_scheme -/
abbrev five : List Str := ["fan", "hall", "iron", "oven", "pump"]
theorem five_ok : ∀ s ∈ five, WordOk s := by
  intro s hs
  unfold WordOk
  simp only [five, List.mem_cons, List.not_mem_nil, or_false] at hs
  rcases hs with rfl | rfl | rfl | rfl | rfl <;> decide +kernel
theorem five_asc : Asc five := by unfold Asc five; decide +kernel
theorem fd__law_scheme (F : Df K mg "_law_scheme" st__law_scheme) (T : Txf mg) (D1 : FD P w K mg base 1 "_law_wirings" ps__law_wirings (sp__law_wirings K C)) (D2 : FD P w K mg base 2 "_law_pick" ps__law_pick (sp__law_pick K C)) (D3 : FD P w K mg base 1 "_law_taken" ps__law_taken (sp__law_taken K C)) : FD P w K mg base 3 "_law_scheme" ps__law_scheme (sp__law_scheme K C) := by
  refine fd_D F sc__law_scheme rfl (fun _ _ _ _ _ _ us hl => match us, hl with | [_, _, _], _ => rfl) fun f cdv A outer s H E hr => ⟨_, dv__law_scheme (C := C) T D1 D2 D3 hr, ?_⟩
  rintro vs Q u r ap ns p s m G F dj fr al _ hd b1 b2 b3 k
  obtain ⟨v1, v2, rfl, p1, p2⟩ := al2 al
  have p1 : D K (.int ((3 : Nat) : Int)) v1 G := p1
  have p2 : D K (.int ((4 : Nat) : Int)) v2 G := p2
  refine s_parD (ap := ap) dj ⟨b1, b2, b3⟩ (ed_int2 (Cc := fun i => 1 ≤ i ∧ i ≤ 3) (· + ·) (ed_intc (ev_int 1)) (ed_takenI (C := C) 3 fr rfl hd (ev_v rfl p1) (by decide) (by decide)) (fun i j v w G' _ _ h1 h2 => ev_plusI h1 h2) (fun i j hi hj => by omega)) mo_DE (ed_int2 (Cc := fun i => 1 ≤ i ∧ i ≤ 4) (· + ·) (ed_intc (ev_int 1)) (ed_takenI (C := C) 4 fr rfl hd (ev_v rfl p2) (by decide) (by decide)) (fun i j v w G' _ _ h1 h2 => ev_plusI h1 h2) (fun i j hi hj => by omega)) fun vS vC G1 pp1 ss1 mm1 ok1 e1 d1 q1 q2 => ?_
  obtain ⟨_, ⟨iS, hS, rfl⟩, q1⟩ := q1
  obtain ⟨_, ⟨iC, hC, rfl⟩, q2⟩ := q2
  obtain ⟨S, rfl⟩ : ∃ S : Nat, iS = S := ⟨iS.toNat, by omega⟩
  obtain ⟨cn, rfl⟩ : ∃ cn : Nat, iC = cn := ⟨iC.toNat, by omega⟩
  have hS1 : 1 ≤ S := by omega
  have hS3 : S ≤ 3 := by omega
  have hC1 : 1 ≤ cn := by omega
  have hC4 : cn ≤ 4 := by omega
  -- the rates
  refine s_setD (ap := ap) d1 ok1 (ed_tupOf (K := K) (Rs := fun ds => ds.length = (List.range S).length ∧ ∀ (i : Nat) (a : Nat) d, (List.range S)[i]? = some a → ds[i]? = some d → d ∈ ([.int 3, .int 4, .int 5, .int 6, .int 8, .int 9, .int 12, .int 16] : List PyData)) ((ed_lcM (K := K) (xs := List.range S) (enc := fun (n : Nat) => PyData.int (n : Nat)) (fun _ d => d ∈ ([.int 3, .int 4, .int 5, .int 6, .int 8, .int 9, .int 12, .int 16] : List PyData)) fr (ei_range1 (ev_v rfl q1) (by omega)) (by rw [List.length_range]; omega) (fun _ => rfl) fun a x G' F' hm e' fr' rx => ed_pick (C := C) [.int 3, .int 4, .int 5, .int 6, .int 8, .int 9, .int 12, .int 16] fr' rfl (hd.ex (e1.trans e')) (ev_lst (ea_d (ev_int 3) (ea_d (ev_int 4) (ea_d (ev_int 5) (ea_d (ev_int 6) (ea_d (ev_int 8) (ea_d (ev_int 9) (ea_d (ev_int 12) (ea_d (ev_int 16) ea_nil)))))))) (by simp)) (by simp) (by simp)).imp fun v G' _ ⟨ds, h1, h2, h3⟩ => ⟨ds, ⟨h1, h2⟩, h3⟩)) fun v6 G2 pp2 ss2 mm2 ok2 e2 d2 ⟨dsR, ⟨hRl, hRm⟩, q6⟩ => ?_
  have E2 := e1.trans e2
  rw [List.length_range] at hRl
  obtain ⟨rates, rfl, hrt⟩ := choose_list (enc := PyData.int) dsR (fun _ r => 1 ≤ r ∧ r ≤ 99) fun i d hi => by
    have hlt := (List.getElem?_eq_some_iff.mp hi).1
    have hm := hRm i i d (by rw [List.getElem?_range (by omega)]) hi
    simp only [List.mem_cons, List.not_mem_nil, or_false] at hm
    rcases hm with rfl | rfl | rfl | rfl | rfl | rfl | rfl | rfl <;> exact ⟨_, rfl, by decide, by decide⟩
  rw [List.length_map] at hRl
  -- above
  refine s_setD (ap := ap) d2 ok2 (ed_tupOf (K := K) (Rs := fun ds => ds.length = (List.range S).length ∧ ∀ (i : Nat) (a : Nat) d, (List.range S)[i]? = some a → ds[i]? = some d → d ∈ PyData.none :: (List.range a).map fun (i : Nat) => PyData.int (i : Nat)) ((ed_lcM (K := K) (xs := List.range S) (enc := fun (n : Nat) => PyData.int (n : Nat)) (fun (a : Nat) d => d ∈ PyData.none :: (List.range a).map fun (i : Nat) => PyData.int (i : Nat)) fr (ei_range1 (ev_v rfl (q1.ex e2)) (by omega)) (by rw [List.length_range]; omega) (fun _ => rfl) fun a x G' F' hm e' fr' rx => ?_).imp fun v G' _ ⟨ds, h1, h2, h3⟩ => ⟨ds, ⟨h1, h2⟩, h3⟩)) fun v7 G3 pp3 ss3 mm3 ok3 e3 d3 ⟨dsA, ⟨hAl, hAm⟩, q7⟩ => ?_
  · have rx : D K (.int (a : Int)) x G' := rx
    have ha : a < S := List.mem_range.mp hm
    exact ed_pick (C := C) (PyData.none :: (List.range a).map fun (i : Nat) => PyData.int (i : Nat)) fr' rfl (hd.ex (E2.trans e')) (Ev.l (ev_plusL (ev_lst0 (K := K) (ds := [.none]) (ea_d (ev_non (K := K)) ea_nil) (by simp)) (ev_lstRg (ev_v rfl rx) (by omega)) (by rw [List.length_map, List.length_range]; simp; omega))) (by simp) (by rw [List.length_cons, List.length_map, List.length_range]; omega)
  have E3 := E2.trans e3
  rw [List.length_range] at hAl
  obtain ⟨above, rfl, hab⟩ := choose_list (enc := eOpt) dsA (fun i o => ∀ j, o = some j → j < i) fun i d hi => by
    have hlt := (List.getElem?_eq_some_iff.mp hi).1
    have hm := hAm i i d (by rw [List.getElem?_range (by omega)]) hi
    rcases List.mem_cons.mp hm with rfl | hm
    · exact ⟨none, rfl, fun j h => nomatch h⟩
    · obtain ⟨j, hj, rfl⟩ := List.mem_map.mp hm
      exact ⟨some j, rfl, fun j' h => by cases h; exact List.mem_range.mp hj⟩
  rw [List.length_map] at hAl
  -- the points
  refine s_newD (ap := ap) d3 fun l n1 n2 hne d4 => ?_
  have frl : ∀ o, (upd F l o) r = none := fun o => by rw [upd_ne (Ne.symm hne)]; exact fr
  refine s_for d4 (ei_list (as := five.take cn) (enc := PyData.str) ((Ev.l (ev_cutL (ds := five.map PyData.str) (lo := none) (hi := some (cn : Int)) (ev_lst (ds := five.map PyData.str) (ea_d (ev_str _) (ea_d (ev_str _) (ea_d (ev_str _) (ea_d (ev_str _) (ea_d (ev_str _) ea_nil))))) (by simp)) eo_none (eo_some (K := K) (ev_v rfl (q2.ex (e2.trans e3)))))).of (by rw [cut_to, List.map_take]))) fun G4 e4 d4 => ⟨fun i σ G' F' => ∃ (xs : List V) (pts : List (Str × Str × Int)) (p s m : Int), F' = rowF (upd F l (.lst xs)) r ap p s m ∧ RowOk p s ∧ DpAll K G' xs (pts.map ePoint) ∧ pts.map (fun q => q.1) = five.take (min i cn) ∧ (∀ q ∈ pts, (q.2.1 = "lamp" ∨ q.2.1 = "plug") ∧ 0 ≤ q.2.2 ∧ q.2.2 ≤ 9) ∧ ∃ o9, σ = [some (.ref r), some v1, some v2, some vS, some vC, none, some v6, some v7, some (.ref l), o9, none, none],
    ⟨[], [], pp3, ss3, mm3, rfl, ok3, .nil, by rw [Nat.zero_min]; rfl, (fun q h => nomatch h), none, rfl⟩, ?_, ?_, ?_⟩
  · rintro i nm x σ' G5 F' hi e5 d5 rr ⟨xs, pts, p1, s1, m1, rfl, ok, hx, hnm, hpk, o9, rfl⟩
    have E5 := E3.trans (e4.trans e5)
    have rr : D K (.str nm) x G5 := rr
    have hil := (List.getElem?_eq_some_iff.mp hi).1
    rw [List.length_take] at hil
    have h5 : five.length = 5 := rfl
    have hxl := dpA_len hx
    have hpl : pts.length ≤ 5 := by
      have := congrArg List.length hnm
      rw [List.length_map, List.length_take] at this
      omega
    rw [List.length_map] at hxl
    refine (eg_name (G := G5)) G5 (Ex.refl _) _ d5 _ fun σ2 hs2 => ?_
    subst hs2
    refine s_appD (ap := ap) d5 ok hne rfl (by omega) (ed_tup3 (K := K) (ed_one (ev_v rfl rr)) (ed_pick (C := C) [.str "lamp", .str "lamp", .str "plug"] (frl _) rfl (hd.ex E5) (ev_lst (ea_d (ev_str _) (ea_d (ev_str _) (ea_d (ev_str _) ea_nil))) (by simp)) (by simp) (by simp)) (ed_int2 (Cc := fun i => 0 ≤ i ∧ i ≤ 9) (· * ·) (ed_takenI (C := C) 2 (frl _) rfl (hd.ex E5) (ev_int 2) (by decide) (by decide)) (ed_intc (ev_int 3)) (fun i j v w G' hi hj h1 h2 => ev_I h1 h2 (.inl ⟨by omega, by omega⟩) fun _ => dInt _) (fun i j hi hj => by subst hj; omega))) fun v G6 p6 s6 m6 ok6 e6 d6 ⟨_, ⟨_, d2', _, rfl, hk, ⟨rm', hrm, rfl⟩, rfl⟩, qv⟩ => ?_
    have hk' : ∃ kd : Str, d2' = .str kd ∧ (kd = "lamp" ∨ kd = "plug") := by
      simp only [List.mem_cons, List.not_mem_nil, or_false] at hk
      rcases hk with rfl | rfl | rfl
      · exact ⟨_, rfl, .inl rfl⟩
      · exact ⟨_, rfl, .inl rfl⟩
      · exact ⟨_, rfl, .inr rfl⟩
    obtain ⟨kd, rfl, hkd⟩ := hk'
    refine s_nx (s_iv (e5.trans e6) d6 rfl ⟨_, pts ++ [(nm, kd, rm')], p6, s6, m6, rfl, ok6, ?_, ?_, ?_, _, rfl⟩)
    · rw [List.map_append]
      exact dpA_app (dpA_ex e6 _ _ hx) (.cons qv .nil)
    · have e1 : min (i + 1) cn = min i cn + 1 := by omega
      have e2 : min i cn = i := by omega
      rw [e1, List.map_append, hnm, e2]
      have : five[i]? = some nm := by
        rw [List.getElem?_take] at hi
        split at hi
        · exact hi
        · cases hi
      rw [take_snoc this]
      rfl
    · intro q hq
      rcases List.mem_append.mp hq with h | h
      · exact hpk q h
      · rcases List.mem_singleton.mp h with rfl
        exact ⟨hkd, hrm⟩
  · rintro i σ' G0 G' F' e ⟨xs, pts, p1, s1, m1, h1, h2, h3, h4⟩
    exact ⟨xs, pts, p1, s1, m1, h1, h2, dpA_ex e _ _ h3, h4⟩
  · rintro σ' G5 F' e5 d5 ⟨xs, pts, p1, s1, m1, rfl, ok, hx, hnm, hpk, o9, rfl⟩
    have E5 := E3.trans (e4.trans e5)
    have h5 : five.length = 5 := rfl
    rw [List.length_take, show min (min cn five.length) cn = cn by omega] at hnm
    have hplen : pts.length = cn := by
      have := congrArg List.length hnm
      rw [List.length_map, List.length_take] at this
      omega
    refine s_setD (ap := ap) d5 ok (ed_pick (C := C) [.str "free", .str "rooms"] (frl _) rfl (hd.ex E5) (ev_lst (ea_d (ev_str _) (ea_d (ev_str _) ea_nil)) (by simp)) (by simp) (by simp)) fun v10 G6 p6 s6 m6 ok6 e6 d6 ⟨dr, hdr, q10⟩ => ?_
    have hdr' : ∃ ru : Str, dr = .str ru ∧ (ru = "free" ∨ ru = "rooms") := by
      simp only [List.mem_cons, List.not_mem_nil, or_false] at hdr
      rcases hdr with rfl | rfl
      · exact ⟨_, rfl, .inl rfl⟩
      · exact ⟨_, rfl, .inr rfl⟩
    obtain ⟨ru, rfl, hru⟩ := hdr'
    obtain ⟨z1, z2, z3⟩ := rowF_lr hne n2 d6
    rw [z1]
    have e7 : Ex G6 (upd G6 l (.lst xs)) := Ex.new z3
    have E7 := (E5.trans e6).trans e7
    have e37 : Ex G3 (upd G6 l (.lst xs)) := (e4.trans e5).trans (e6.trans e7)
    have hp : PlOk ⟨rates, above, pts, ru⟩ := by
      refine ⟨by show 1 ≤ rates.length; omega, by show rates.length ≤ 5; omega, fun x hx => ?_, by show above.length = rates.length; omega, fun b q hb => hab b _ hb q rfl, by show 1 ≤ pts.length; omega, by show pts.length ≤ 5; omega, fun q hq => ?_, hpk, ?_, hru⟩
      · obtain ⟨i, hi⟩ := List.getElem?_of_mem hx
        exact hrt i x hi
      · refine five_ok _ (List.mem_of_mem_take (i := cn) ?_)
        rw [← hnm]
        exact List.mem_map.mpr ⟨q, hq, rfl⟩
      · show Asc (pts.map (fun q => q.1))
        rw [hnm]
        exact asc_sub (List.take_sublist _ _) five_asc
    have hsl : Ev (tCB (rTupC K) (tCons (tVar 8) tNil)) [some (.ref r), some v1, some v2, some vS, some vC, none, some v6, some v7, some (.ref l), o9, some v10, none] (upd G6 l (.lst xs)) (D K (ePoints pts)) := ev_tupL (ev_v rfl (dLst upd_same (dpA_ex (e6.trans e7) _ _ hx)))
    refine s_set z2 (ev_tup (ds := eParts ⟨rates, above, pts, ru⟩) (ea_d (ev_v rfl (q6.ex (e3.trans e37))) (ea_d (ev_v rfl (q7.ex e37)) (ea_d hsl (ea_d (ev_v rfl (q10.ex e7)) ea_nil)))) (by simp [eParts])) fun v11 G8 e8 d8 q11 => ?_
    have E8 := E7.trans e8
    have q11' : D K (eS ⟨rates, above, pts, ru⟩ []) v11 G8 := q11
    have hw1 : EvD (tTup (tCons (tCall (sp__law_pick K C) [] E0 (tCons (tVar 0) (tCons (tCall (sp__law_wirings K C) [] E0 (tCons (tVar 11) tNil)) tNil))) tNil)) [some (.ref r), some v1, some v2, some vS, some vC, none, some v6, some v7, some (.ref l), o9, some v10, some v11] G8 F r ap (DE K fun d => ∃ e, (∃ wr, WirOk ⟨rates, above, pts, ru⟩ wr ∧ Follows ⟨rates, above, pts, ru⟩ wr ∧ e = eOpts wr) ∧ d = .tuple [e]) := by
      refine ed_tup1 (ed_argE rfl (c__law_wirings (C := C) ⟨rates, above, pts, ru⟩ (ea_d (ev_v rfl q11') ea_nil) ⟨hp, by show rates.length ≤ 3; omega, by show pts.length ≤ 4; omega⟩) fun v G' e' hv0 => ?_)
      obtain ⟨ws, hne', hlen, hok, hv⟩ := hv0
      refine (ed_pick (C := C) (ws.map eOpts) fr rfl (hd.ex (E8.trans e')) (ev_cp hv) (by rw [List.length_map]; exact List.length_pos_iff.mpr hne') (by rw [List.length_map]; omega)).imp fun v G2 _ hv1 => ?_
      obtain ⟨d, hd', hv'⟩ := hv1
      obtain ⟨wr, hwr, rfl⟩ := List.mem_map.mp hd'
      exact ⟨_, ⟨wr, (hok wr hwr).1, (hok wr hwr).2, rfl⟩, hv'⟩
    refine s_retD (ap := ap) d8 ok6 (ed_bin (Pr := fun v G => ∃ wr, WirOk ⟨rates, above, pts, ru⟩ wr ∧ Follows ⟨rates, above, pts, ru⟩ wr ∧ D K (.tuple (eParts ⟨rates, above, pts, ru⟩ ++ [eOpts wr])) v G) (ed_of (ev_v (K := K) rfl q11)) hw1 mo_D fun v w' G' e' g1 g2 => ?_) fun v G9 p9 s9 m9 ok9 e9 d9 hv => ?_
    · obtain ⟨_, ⟨_, ⟨wr, w1, w2, rfl⟩, rfl⟩, g2⟩ := g2
      exact (ev_plusT (ev_cp g1) (ev_cp g2) (by simp [eParts])).imp fun v G _ q => ⟨wr, w1, w2, q⟩
    · obtain ⟨wr, w1, w2, q⟩ := hv
      exact k v G9 p9 s9 m9 ok9.1 ok9.2.1 ok9.2.2 (E8.trans e9) d9 ⟨⟨rates, above, pts, ru⟩, wr, hp, by show rates.length ≤ 3; omega, by show pts.length ≤ 4; omega, w1, w2, q⟩

end
end Bf
set_option Elab.async false
set_option linter.all false
set_option maxRecDepth 100000
set_option maxHeartbeats 4000000
namespace Bf
open PySem PyProof.Rows L2
section
variable {P : Program} {w : World} {K : PySem.W.Frag} {mg : Str → Option Value} {base : Heap} {C : Addr}
/-! ### the law -/
def sp_law (K : PySem.W.Frag) : Sp := fun vs H Q _ => ∃ (a : Addr) (ns : List Int), vs = [.ref a] ∧ D K (.list (ns.map PyData.int)) (.ref a) H ∧ ∀ H', Q (.bl true) H'
section
variable {σ : St} {G F : Hp} {te tl ta tb tc : TE} {t : L2.TT} {g : TG} {E : Ends} {tz ty tw : TS} {r ap : Addr} {Pr : V → Hp → Prop} {p s m : Int}
theorem s_forD (dj : Dj G (rowF F r ap p s m)) (ok : RowOk p s) (h : EvD tl σ G F r ap Pr) (k : ∀ v G' p' s' m', RowOk p' s' → Ex G G' → Dj G' (rowF F r ap p' s' m') → Pr v G' → tSeq (tFor (iList K (tC v)) g ty) tz E σ (un G' (rowF F r ap p' s' m'))) : tSeq (tFor (iList K tl) g ty) tz E σ (un G (rowF F r ap p s m)) := h G (Ex.refl _) p s m ok dj _ k
theorem s_forR3 (dj : Dj G (rowF F r ap p s m)) (ok : RowOk p s) (h : EvD tl σ G F r ap Pr) (k : ∀ v G' p' s' m', RowOk p' s' → Ex G G' → Dj G' (rowF F r ap p' s' m') → Pr v G' → tSeq (tFor (iRng3 (tCons (tC v) (tCons tb (tCons tc tNil)))) g ty) tz E σ (un G' (rowF F r ap p' s' m'))) : tSeq (tFor (iRng3 (tCons tl (tCons tb (tCons tc tNil)))) g ty) tz E σ (un G (rowF F r ap p s m)) := h G (Ex.refl _) p s m ok dj _ k
theorem s_tgtD (dj : Dj G (rowF F r ap p s m)) (ok : RowOk p s) (h : EvD te σ G F r ap Pr) (k : ∀ v G' p' s' m', RowOk p' s' → Ex G G' → Dj G' (rowF F r ap p' s' m') → Pr v G' → g v σ (un G' (rowF F r ap p' s' m')) (tz E)) : tSeq (tAsg te g) tz E σ (un G (rowF F r ap p s m)) := h G (Ex.refl _) p s m ok dj _ k
/-- the row itself -/
theorem s_row {a : Addr} {i : Nat} (dj : Dj G F) (h0 : σ[0]? = some (some (.ref a))) (k : ∀ r, G r = none → F r = none → Dj G (rowF F r a 0 0 0) → tz E (σ.set i (some (.ref r))) (un G (rowF F r a 0 0 0))) : tSeq (tAsg (tLst (tCons (tVar 0) (tCons (tC (.int 0)) (tCons (tC (.int 0)) (tCons (tC (.int 0)) tNil))))) (gName i)) tz E σ (un G F) :=
  ⟨_, h0, Nat.le_of_lt (small1000 (by show 4 ≤ 1000; decide)), fun r hr => by
    obtain ⟨n1, n2⟩ := un_no hr
    show tz E _ (upd (un G F) r (rowO a 0 0 0))
    rw [upd_r n1]
    exact k r n1 n2 (dj.newR n1)⟩
/-- three targets: a value, a drawn one, a new dict -/
theorem s_par3D {i j l : Nat} {P1 P2 : V → Hp → Prop} (dj : Dj G (rowF F r ap p s m)) (ok : RowOk p s) (ha : Ev ta σ G P1) (m1 : Mo P1) (hb : EvD tb σ G F r ap P2) (m2 : Mo P2)
    (k : ∀ u v td G' p' s' m', RowOk p' s' → Ex G G' → F td = none → td ≠ r → Dj G' (rowF (upd F td (.dK [])) r ap p' s' m') → P1 u G' → P2 v G' → tz E (((σ.set i (some u)).set j (some v)).set l (some (.ref td))) (un G' (rowF (upd F td (.dK [])) r ap p' s' m'))) : tSeq (tAsg (tTup (tCons ta (tCons tb (tCons tDNewK tNil)))) (gTup K 3 (gCons (gName i) (gCons (gName j) (gCons (gName l) gNil))))) tz E σ (un G (rowF F r ap p s m)) :=
  ha.run dj fun u Ga ea da pu => hb Ga ea p s m ok da _ fun v Gb p2 s2 m2' ok2 eb db pv => fun td htd => by
    obtain ⟨n1, n2⟩ := un_no htd
    have hne : td ≠ r := fun e => by subst e; rw [show rowF F td ap p2 s2 m2' td = some (rowO ap p2 s2 m2') from upd_same] at n2; cases n2
    have ftd : F td = none := by rwa [show rowF F r ap p2 s2 m2' td = F td from upd_ne hne] at n2
    rw [upd_r n1]
    have z : upd (rowF F r ap p2 s2 m2') td (.dK []) = rowF (upd F td (.dK [])) r ap p2 s2 m2' := upd_comm (Ne.symm hne)
    have d1 := db.newR (o := .dK []) n1
    rw [z] at d1 ⊢
    refine ⟨Nat.le_of_lt (small1000 (by show 3 ≤ 1000; decide)), fun tp htp => ?_⟩
    obtain ⟨n3, n4⟩ := un_no htp
    rw [upd_l]
    refine ⟨tp, [u, v, .ref td], rfl, SqT.of (un_l upd_same), rfl, u, _, rfl, v, _, rfl, .ref td, _, rfl, rfl, ?_⟩
    exact k u v td _ p2 s2 m2' ok2 ((ea.trans eb).trans (Ex.new n3)) ftd hne (d1.newL n4) (m1 _ _ _ (eb.trans (Ex.new n3)) pu) (m2 _ _ _ (Ex.new n3) pv)
/-- ints drawn from a list of one's own, as data of their own -/
theorem s_setBi {l a0 : Addr} {xs : List V} {is : List PyData} {i : Nat} (dj : Dj G (upd F l (.lst (xs ++ [.ref a0])))) (fl : F l = none) (hi : ∀ d ∈ is, ∃ n : Int, d = .int n) (he : Ev te σ (upd G l (.lst (xs ++ [.ref a0]))) (Lx K is)) (k : ∀ v G', Ex G G' → Dj G' (upd F l (.lst (xs ++ [.ref a0]))) → Lx K is v G' → tz E (σ.set i (some v)) (un G' (upd F l (.lst (xs ++ [.ref a0]))))) : tSeq (tAsg te (gName i)) tz E σ (un G (upd F l (.lst (xs ++ [.ref a0])))) := by
  have gl : G l = none := dj.n upd_same
  rw [upd_lr gl]
  refine s_set ((dj.off fl).newL fl) he fun v G2 e2 d2 pv => ?_
  obtain ⟨b, ys, rfl, h1, h2⟩ := pv
  obtain ⟨b1, b2, b3⟩ := row_back d2 e2 fl gl
  rw [← row_un (F := F) (e2 _ _ upd_same), b3]
  have hints : ∀ (is : List PyData) (ys : List V), (∀ d ∈ is, ∃ n : Int, d = .int n) → DpAll K G2 ys is → (∀ y ∈ ys, ∃ n, y = V.int n) ∧ ∀ G', DpAll K G' ys is := by
    intro is
    induction is with
    | nil =>
      intro ys _ h
      cases h
      exact ⟨(fun y hy => nomatch hy), fun G' => DpAll.nil⟩
    | cons d is ih =>
      intro ys hi h
      cases h with
      | cons g1 g2 =>
        obtain ⟨n, rfl⟩ := hi d List.mem_cons_self
        obtain ⟨i1, i2⟩ := ih _ (fun d hd => hi d (List.mem_cons_of_mem _ hd)) g2
        obtain rfl := D.int (show D K (.int n) _ G2 from g1)
        exact ⟨fun y hy => by
          rcases List.mem_cons.mp hy with rfl | hy
          · exact ⟨n, rfl⟩
          · exact i1 y hy, fun G' => .cons (dInt _) (i2 G')⟩
  obtain ⟨i1, i2⟩ := hints is ys hi h2
  have hbl : b ≠ l := fun e => by
    subst e
    rw [e2 _ _ upd_same] at h1
    cases h1
    obtain ⟨n, hn⟩ := i1 (.ref a0) (List.mem_append_right _ List.mem_cons_self)
    cases hn
  exact k (.ref b) _ b1 b2 ⟨b, ys, rfl, by unfold rm; rw [if_neg hbl]; exact h1, i2 _⟩
end
theorem eqvR_ints : ∀ l : List Int, PyData.eqvAll (l.map PyData.int) (l.map PyData.int) = true
  | [] => by simp [PyData.eqvAll]
  | x :: l => by
    show PyData.eqvAll (.int x :: l.map PyData.int) (.int x :: l.map PyData.int) = true
    simp only [PyData.eqvAll, eqvR_ints l, Bool.and_true]
    rw [eqvI]
    exact decide_eq_true rfl
theorem eqvR_pairs : ∀ l : List (Nat × Nat), PyData.eqvAll (ePairs l) (ePairs l) = true
  | [] => by simp [PyData.eqvAll, ePairs]
  | x :: l => by
    show PyData.eqvAll (ePair x :: ePairs l) (ePair x :: ePairs l) = true
    have : PyData.eqv (ePair x) (ePair x) = true := by
      unfold ePair
      simp only [PyData.eqv, PyData.eqvAll]
      simp
    rw [PyData.eqvAll, this, eqvR_pairs l]
    rfl
theorem fine_str {n : Nat} {x : Str} (h : WordOk x) : Fine n (.str x) := by
  refine ⟨?_, by simp [PyData.depth]⟩
  show PyData.strOk x = true
  unfold PyData.strOk
  rw [Array.all_eq_true]
  intro i hi
  have hm : x.cps[i] ∈ x.cps.toList := Array.mem_toList_iff.mpr (Array.getElem_mem hi)
  have := h.2.2 _ hm
  have all : ∀ c ∈ lettersS.cps.toList, c < 0x110000 := by decide +kernel
  exact decide_eq_true (all _ this)
theorem fine_point {pl : PlanD} (hp : PlOk pl) : ∀ q ∈ pl.points, Fine 10 (ePoint q) := fun q hq => by
  refine (fine_tup (n := 9) (ds := [.str q.1, .str q.2.1, .int q.2.2]) fun d hd => ?_)
  rcases List.mem_cons.mp hd with rfl | hd
  · exact fine_str (hp.nw q hq)
  · rcases List.mem_cons.mp hd with rfl | hd
    · refine ⟨?_, by simp [PyData.depth]⟩
      rcases (hp.pk q hq).1 with h | h <;> rw [h] <;> decide +kernel
    · rcases List.mem_singleton.mp hd with rfl
      exact fine_int _
theorem ePoint_inj {a b : Str × Str × Int} (h : ePoint a = ePoint b) : a = b := by
  obtain ⟨x, y, z⟩ := a
  obtain ⟨x', y', z'⟩ := b
  simp only [ePoint, PyData.tuple.injEq, List.cons.injEq, PyData.str.injEq, PyData.int.injEq, and_true] at h
  rw [h.1, h.2.1, h.2.2]

end
end Bf
set_option Elab.async false
set_option linter.all false
set_option maxRecDepth 100000
set_option maxHeartbeats 4000000
namespace Bf
open PySem PyProof.Rows L2
section
variable {P : Program} {w : World} {K : PySem.W.Frag} {mg : Str → Option Value} {base : Heap} {C : Addr}
/-! ### the law: its def -/
theorem len_cnt {pl : PlanD} {wir : List (Option Nat)} {loads : Loads} {ts : Timers} {b n : Nat} : ((dayP pl wir loads ts n).filter fun a => decide (a.2 = b)).length = cnt pl wir loads ts b n := by
  unfold cnt
  rw [List.count_eq_countP, List.countP_map, List.countP_eq_length_filter]
  congr 2
theorem dayP_len {pl : PlanD} {wir : List (Option Nat)} {loads : Loads} {ts : Timers} {n : Nat} (hp : PlOk pl) : (dayP pl wir loads ts n).length ≤ 120 := by
  have h : (dayF pl wir (loadsAt loads ts (namesOn loads ts n)) 24).2.length ≤ 24 * pl.rates.length := (dayF_len (pl := pl) (wir := wir) 24).2
  have e : (dayP pl wir loads ts n).length = (dayF pl wir (loadsAt loads ts (namesOn loads ts n)) 24).2.length := rfl
  have h5 := hp.n2
  omega
/-- a row of counts -/
def cRow (a : Q0) (b : Nat) : List PyData := (List.range 12).map fun n => .int ((cnt a.1 a.2.1 a.2.2.1 a.2.2.2 b n : Nat) : Int)
theorem cRow_get {a : Q0} {b n : Nat} (h : n < 12) : (cRow a b)[n]? = some (.int ((cnt a.1 a.2.1 a.2.2.1 a.2.2.2 b n : Nat) : Int)) := by
  unfold cRow
  rw [List.getElem?_map, List.getElem?_range h]
  rfl
theorem cRow_ints {a : Q0} {b : Nat} : cRow a b = (((List.range 12).map (cnt a.1 a.2.1 a.2.2.1 a.2.2.2 b)).map fun (n : Nat) => (n : Int)).map PyData.int := by
  unfold cRow
  rw [List.map_map, List.map_map]
  rfl
theorem cRow_sum {a : Q0} {b : Nat} : ((((List.range 12).map (cnt a.1 a.2.1 a.2.2.1 a.2.2.2 b)).map fun (n : Nat) => (n : Int))).sum = ((sumTo (cnt a.1 a.2.1 a.2.2.1 a.2.2.2 b) 12 : Nat) : Int) := by
  rw [sum_ints]
  rfl
theorem cRow_take {a : Q0} {b k : Nat} (h : k ≤ 12) : ((((List.range 12).map (cnt a.1 a.2.1 a.2.2.1 a.2.2.2 b)).map fun (n : Nat) => (n : Int)).take k).sum = ((sumTo (cnt a.1 a.2.1 a.2.2.1 a.2.2.2 b) k : Nat) : Int) := by
  rw [← List.map_take, sum_ints, sumTo_take _ h]
theorem cut_row {σ : St} {G : Hp} {ta tb : TE} {a : Q0} {b k : Nat} (h1 : Ev ta σ G (D K (.list (cRow a b)))) (h2 : Ev tb σ G (D K (.int (k : Int)))) (hk : k ≤ 12) : Ev (tCB (rSum K) (tCons (tSl (rCut K) ta tNoPart (tPart tb)) tNil)) σ G (D K (.int ((sumTo (cnt a.1 a.2.1 a.2.2.1 a.2.2.2 b) k : Nat) : Int))) :=
  (ev_sum ((Ev.l (ev_cutL h1 eo_none (eo_some h2))).of (by rw [cut_to, cRow_ints, List.map_take]))).of (by rw [cRow_take hk])
theorem sum_row {σ : St} {G : Hp} {ta : TE} {a : Q0} {b : Nat} (h1 : Ev ta σ G (D K (.list (cRow a b)))) : Ev (tCB (rSum K) (tCons ta tNil)) σ G (D K (.int ((sumTo (cnt a.1 a.2.1 a.2.2.1 a.2.2.2 b) 12 : Nat) : Int))) :=
  (ev_sum (h1.of (by rw [cRow_ints]))).of (by rw [cRow_sum])
theorem rgc3 {i : Int} (h : 0 ≤ i ∧ i < 4) : ∃ n : Nat, RgC i 12 3 n ∧ ∀ k : Nat, k < n → i + (k : Int) * 3 < 12 := by
  have : i = 0 ∨ i = 1 ∨ i = 2 ∨ i = 3 := by omega
  rcases this with rfl | rfl | rfl | rfl
  · exact ⟨4, ⟨by decide, by decide, by decide +kernel, by decide +kernel⟩, fun k hk => by omega⟩
  · exact ⟨4, ⟨by decide, by decide, by decide +kernel, by decide +kernel⟩, fun k hk => by omega⟩
  · exact ⟨4, ⟨by decide, by decide, by decide +kernel, by decide +kernel⟩, fun k hk => by omega⟩
  · exact ⟨3, ⟨by decide, by decide, by decide +kernel, by decide +kernel⟩, fun k hk => by omega⟩
theorem far_ok {i j : Int} (hi : i = (10 : Int) ^ (16 : Nat)) (hj : 0 ≤ j ∧ j < ((9 : Nat) : Int)) : 0 ≤ i + j ∧ i + j ≤ 20000000000000000 := by
  subst hi
  have h1 : (10 : Int) ^ (16 : Nat) = 10000000000000000 := by decide
  rw [h1]
  omega
theorem due_int {f : Nat → Nat} {q r : Nat} (hf : ∀ n, f n = f (n % 12)) : (q : Int) * ((sumTo f 12 : Nat) : Int) + ((sumTo f r : Nat) : Int) = ((sumTo f (12 * q + r) : Nat) : Int) := by
  have z := sumTo_round (f := f) (L := 12) hf q r
  rw [Nat.mul_comm 12 q, z, Int.natCast_add, Int.natCast_mul]
theorem due_ev {σ : St} {G : Hp} {row : Nat → List PyData} {N fn rn : Nat} {S R g : Nat → Int} {c v17 v18 : V} (hS : ∀ {b : Nat} {σ : St} {G : Hp} {te : TE}, Ev te σ G (D K (.list (row b))) → Ev (tCB (rSum K) (tCons te tNil)) σ G (D K (.int (S b))))
    (hR : ∀ {b : Nat} {σ : St} {G : Hp} {ta tb : TE}, Ev ta σ G (D K (.list (row b))) → Ev tb σ G (D K (.int (rn : Int))) → Ev (tCB (rSum K) (tCons (tSl (rCut K) ta tNoPart (tPart tb)) tNil)) σ G (D K (.int (R b)))) (hg : ∀ b, (fn : Int) * S b + R b = g b) (hfn : fn ≤ 10 ^ 18) (hN : N ≤ 1000)
    (cg : D K (.list ((List.range N).map fun b => .list (row b))) c G) (r17 : D K (.int (fn : Int)) v17 G) (r18 : D K (.int (rn : Int)) v18 G) (h10 : σ[10]? = some (some c)) (h17 : σ[17]? = some (some v17)) (h18 : σ[18]? = some (some v18))
    (hw : ∀ x, wipe ((wipe σ [12]).set 12 (some x)) [12] = wipe σ [12]) (w12 : ∀ x, ((wipe σ [12]).set 12 (some x))[12]? = some (some x)) (w17 : ∀ x, ((wipe σ [12]).set 12 (some x))[17]? = some (some v17)) (w18 : ∀ x, ((wipe σ [12]).set 12 (some x))[18]? = some (some v18)) :
    Ev (tCB (rTupC K) (tCons (tLc (iList K (tVar 10)) (gName 12) (tYes) (tOp (rPlus3 K) (tOp (rI CMul fun i j => .int (i * j)) (tVar 17) (tCB (rSum K) (tCons (tVar 12) (tNil)))) (tCB (rSum K) (tCons (tSl (rCut K) (tVar 12) (tNoPart) (tPart (tVar 18))) (tNil)))) [12]) (tNil))) σ G (D K (.tuple (((List.range N).map g).map PyData.int))) :=
  (ev_tupL (Ev.l (e_lcM (K := K) (xs := List.range N) (enc := fun b => PyData.list (row b)) (fun b => PyData.int (g b)) (ei_list (ev_v h10 cg)) (by rw [List.length_range]; exact hN) hw fun b y G' hm e ry => (ev_plusI (ev_I (C := CMul) (d := .int ((fn : Int) * S b)) (ev_v (w17 y) (r17.ex e)) (hS (ev_v (w12 y) ry)) (mul64 hfn) fun _ => dInt _) (hR (ev_v (w12 y) ry) (ev_v (w18 y) (r18.ex e)))).of (congrArg PyData.int (hg b))))).of (by rw [List.map_map]; rfl)
/-- what the law knows of its words -/
structure LawD (P : Program) (w : World) (K : PySem.W.Frag) (mg : Str → Option Value) (base : Heap) (C : Addr) : Prop where
  fs : FD P w K mg base 10 "fewest_shifts" ps_fewest_shifts (sp_fewest_shifts K C)
  tu : FD P w K mg base 9 "trips_until" ps_trips_until (sp_trips_until K C)
  tk : FD P w K mg base 1 "_law_taken" ps__law_taken (sp__law_taken K C)
  fd : FD P w K mg base 9 "first_day" ps_first_day (sp_first_day K C)
  dy : FD P w K mg base 8 "day" ps_day (sp_day K C)
  ld : FD P w K mg base 5 "_law_day" ps__law_day (sp__law_day K C)
  mx : FD P w K mg base 2 "_law_mixed" ps__law_mixed (sp__law_mixed K C)
  ll : FD P w K mg base 2 "_law_loads" ps__law_loads (sp__law_loads K C)
  lp : FD P w K mg base 6 "_law_plan" ps__law_plan (sp__law_plan K C)
  sc : FD P w K mg base 3 "_law_scheme" ps__law_scheme (sp__law_scheme K C)
theorem law_fn {fa : Addr} {fd : FuncData} (FF : FunD K "law" "law" (defArgs st_law) (defBody st_law) (defScope st_law) [] [] fa fd) (T : Txf mg) (L : LawD P w K mg base C) : FnOk P w K mg base CX0 11 fa fd ps_law (sp_law K) := by
  refine FunD.ok FF sc_law (fun vs H Q E h => by obtain ⟨a, ns, rfl, _⟩ := h; rfl) fun cdv A outer s H vs Q E hr h => ?_
  refine ⟨_, (dv_law (C := C) T L.fs L.tu L.tk L.fd L.dy L.ld L.mx L.ll L.lp L.sc hr).nox, ?_⟩
  obtain ⟨a, ns, rfl, hd0, k⟩ := h
  have eH : H = un H (fun _ => none) := by
    funext b
    unfold un
    cases H b <;> rfl
  generalize hF : (fun _ => none : Hp) = F at eH
  have dj0 : Dj H F := fun _ _ _ => by rw [← hF]
  rw [eH]
  refine s_row dj0 rfl fun r n1 fr d1 => ?_
  -- the scheme
  refine s_setD (ap := a) d1 ⟨by decide, by decide, by decide⟩ (ed_call (n := 2) (j := 1) (K := K) () fr rfl hd0 (ea_d (ev_int 3) (ea_d (ev_int 4) ea_nil)) rfl trivial) fun vs G1 q1 s1 m1 ok1 e1 d2 hsc => ?_
  obtain ⟨pl, wir, hp, hr3, hp4, hw, hf, g2⟩ := hsc
  have g2' : D K (.tuple (eParts pl ++ [eOpts wir])) vs G1 := g2
  have hn1 := hp.n1
  have hn5 := hp.n2
  have hpn := hp.p2
  -- plan, loads, {}
  refine s_par3D (ap := a) (F := F) d2 ok1 (c__law_plan (C := C) (pl, [eOpts wir]) (ea_d (ev_v rfl g2) ea_nil) hp) mo_Pl (ed_call (n := 1) (j := 1) (K := K) (pl, [eOpts wir]) fr rfl (hd0.ex e1) (ea_d (ev_v rfl g2) ea_nil) rfl hp) (fun v G G' e ⟨l, h1, h2⟩ => ⟨l, h1, mo_Dx _ _ _ e h2⟩) fun vp vl td G2 q2 s2 m2 ok2 e2 ftd tdr d3 gp hl => ?_
  obtain ⟨loads, hld, gl⟩ := hl
  have gp : Pl K C pl vp G2 := gp
  have hld : LdOk pl loads := hld
  have E2 := e1.trans e2
  have frt : ∀ o, (upd F td o) r = none := fun o => by rw [upd_ne (Ne.symm tdr)]; exact fr
  -- the points, mixed
  refine s_forD (ap := a) d3 ok2 (ed_call (n := 1) (j := 1) (K := K) (pl.points.map ePoint) (frt _) rfl (hd0.ex E2) (ea_d (ev_ixT (i := 2) (ev_v rfl (g2'.ex e2)) (ev_int 2) rfl) ea_nil) rfl ⟨by rw [List.length_map]; omega, fun d hd => by obtain ⟨q, hq, rfl⟩ := List.mem_map.mp hd; exact fine_point hp q hq⟩) fun vm G3 q3 s3 m3 ok3 e3 d4 hmx => ?_
  obtain ⟨es, hperm, hes⟩ := hmx
  obtain ⟨pts, hpp, rfl⟩ := perm_of_map hperm pl.points rfl
  have E3 := E2.trans e3
  have hpnd : (pts.map fun q => q.1).Nodup := (hpp.map fun (q : Str × Str × Int) => q.1).nodup_iff.mpr (asc_nodup (show Asc (pl.points.map fun q => q.1) from hp.na))
  have hpl := hpp.length_eq
  refine s_for d4 (ei_list (as := pts) (enc := ePoint) (ev_cp hes)) fun G4 e4 d4 => ⟨fun i σ G' F' => ∃ (vs' : List (Key × V)) (ts : Timers) (p s m : Int), F' = rowF (upd F td (.dK vs')) r a p s m ∧ RowOk p s ∧ KDs K G' vs' (eTimers ts) ∧ (ts.map Prod.fst).Sublist ((pts.map fun q => q.1).take i) ∧ (∀ q ∈ ts, TmOk q.2) ∧ ∃ o6 o7, σ = [some (.ref a), some (.ref r), some vs, some vp, some vl, some (.ref td), o6, o7, none, none, none, none, none, none, none, none, none, none, none, none, none],
    ⟨[], [], q3, s3, m3, rfl, ok3, .nil, List.nil_sublist _, (fun q h => nomatch h), none, none, rfl⟩, ?_, ?_, ?_⟩
  · rintro i pt x σ' G5 F' hi e5 d5 rr ⟨vs', ts, p1, s1', m1', rfl, ok, hk, hsub, htm, o6, o7, rfl⟩
    obtain ⟨nm, kd, room⟩ := pt
    have E5 := E3.trans (e4.trans e5)
    have rr : D K (.tuple [.str nm, .str kd, .int room]) x G5 := rr
    have hni : (pts.map fun q => q.1)[i]? = some nm := by rw [List.getElem?_map, hi]; rfl
    have hlen := hsub.length_le
    rw [List.length_map, List.length_take, List.length_map] at hlen
    have hvl : vs'.length = ts.length := by
      have z : vs'.length = _ := Paired.length hk
      unfold eTimers at z
      rwa [List.length_map] at z
    have hnew : nm ∉ ts.map Prod.fst := fun hm => nodup_at hpnd hni (hsub.subset hm)
    refine (eg_name (G := G5)) G5 (Ex.refl _) _ d5 _ fun σ2 hs2 => ?_
    subst hs2
    refine s_ifD (ap := a) d5 ok (ed_bin (ed_takenI (C := C) 3 (frt _) rfl (hd0.ex E5) (ev_int 3) (by decide) (by decide)) (ed_of (ev_int (K := K) 0)) mo_DE fun v w' G' e' h1 h2 => ?_) (fun G6 p6 s6 m6 ok6 e6 d6 => ?_) fun G6 p6 s6 m6 ok6 e6 d6 => ?_
    · obtain ⟨_, ⟨j, hj, rfl⟩, h1⟩ := h1
      exact (ev_gt (ev_cp h1) (ev_cp h2)).imp fun v G _ q => ⟨_, D.bl q⟩
    · have E6 := E5.trans e6
      refine s_setD (ap := a) d6 ok6 (ed_takenI (C := C) 24 (frt _) rfl (hd0.ex E6) (ev_int 24) (by decide) (by decide)) fun vb G7 p7 s7 m7 ok7 e7 d7 hvb => ?_
      obtain ⟨_, ⟨ib, hib, rfl⟩, gb⟩ := hvb
      obtain ⟨bb, rfl⟩ : ∃ bb : Nat, ib = bb := ⟨ib.toNat, by omega⟩
      have hbb : bb < 24 := by omega
      have E7 := E6.trans e7
      refine s_dputD (ap := a) (K := K) (x := nm) (Pr := DE K fun d => ∃ tm : Tm, TmOk tm ∧ d = eTm tm) d7 ok7 tdr rfl (by omega) ((ed_tup3 (ed_intc (ev_v rfl gb)) (ed_int2 (Cc := fun i => (bb : Int) + 1 ≤ i ∧ i ≤ 24) (· + ·) (ed_intc (ev_plusI (ev_v rfl gb) (ev_int 1))) (ed_takenI (C := C) (24 - bb) (frt _) rfl (hd0.ex E7) ((ev_sub (ev_int 24) (ev_v rfl gb)).of (by congr 1; omega)) (by omega) (by omega)) (fun i j v w G' _ _ h1 h2 => ev_plusI h1 h2) (fun i j hi hj => by omega)) (ed_int2 (Cc := fun i => 1 ≤ i ∧ i ≤ 4) (· + ·) (ed_intc (ev_int 1)) (ed_takenI (C := C) 4 (frt _) rfl (hd0.ex E7) (ev_int 4) (by decide) (by decide)) (fun i j v w G' _ _ h1 h2 => ev_plusI h1 h2) (fun i j hi hj => by omega))).imp fun v G' _ h => ?_) mo_DE (fun G' e' => ev_ixT (i := 0) (ev_v rfl (rr.ex ((e6.trans e7).trans e'))) (ev_int 0) rfl) ?_ fun v G8 p8 s8 m8 ok8 e8 d8 pv => ?_
      · obtain ⟨_, ⟨d1', d2', d3', ⟨j1, hj1, rfl⟩, ⟨j2, hj2, rfl⟩, ⟨j3, hj3, rfl⟩, rfl⟩, h⟩ := h
        subst hj1
        obtain ⟨n2, rfl⟩ : ∃ n2 : Nat, j2 = n2 := ⟨j2.toNat, by omega⟩
        obtain ⟨n3, rfl⟩ : ∃ n3 : Nat, j3 = n3 := ⟨j3.toNat, by omega⟩
        exact ⟨_, ⟨⟨bb, n2, n3⟩, ⟨hbb, by show bb < n2; omega, by show n2 ≤ 24; omega, by show 1 ≤ n3; omega, by show n3 ≤ 4; omega⟩, rfl⟩, h⟩
      · have z := kds_get (s := nm) hk
        rw [getK_none (by rw [eTimers_keys]; exact hnew)] at z
        exact z
      · obtain ⟨_, ⟨tm, htm', rfl⟩, gv⟩ := pv
        refine s_nx (s_nx (s_iv ((e5.trans e6).trans (e7.trans e8)) d8 rfl ⟨_, ts ++ [(nm, tm)], p8, s8, m8, rfl, ok8, ?_, ?_, ?_, _, _, rfl⟩))
        · unfold eTimers
          rw [List.map_append]
          exact paired_app (kds_ex ((e6.trans e7).trans e8) hk) (.cons ⟨rfl, gv⟩ .nil)
        · rw [take_snoc hni, List.map_append]
          exact hsub.append (List.Sublist.refl _)
        · intro q hq
          rcases List.mem_append.mp hq with h | h
          · exact htm q h
          · rcases List.mem_singleton.mp h with rfl
            exact htm'
    · refine s_nx (s_nx (s_iv (e5.trans e6) d6 rfl ⟨vs', ts, p6, s6, m6, rfl, ok6, kds_ex e6 hk, ?_, htm, _, _, rfl⟩))
      rw [take_snoc hni]
      exact hsub.trans (List.sublist_append_left _ _)
  · rintro i σ' G0 G' F' e ⟨vs', ts, p1, s1', m1', h1, h2, h3, h4⟩
    exact ⟨vs', ts, p1, s1', m1', h1, h2, kds_ex e h3, h4⟩
  · rintro σ' G5 F' e5 d5 ⟨vs', ts, p1, s1', m1', rfl, ok, hk, hsub, htm, o6, o7, rfl⟩
    have hsub' : (ts.map Prod.fst).Sublist (pts.map fun q => q.1) := hsub.trans (List.take_sublist _ _)
    have hts : TsOk pl ts := by
      refine ⟨List.Sublist.nodup hsub' hpnd, ?_, fun q hq => ⟨?_, htm q hq⟩⟩
      · have := hsub'.length_le
        rw [List.length_map, List.length_map] at this
        omega
      · have := hsub'.subset (List.mem_map.mpr ⟨q, hq, rfl⟩)
        exact (hpp.map fun (q : Str × Str × Int) => q.1).mem_iff.mp this
    obtain ⟨z1, z2, z3⟩ := rowF_lr tdr ftd d5
    rw [z1]
    have e6 : Ex G5 (upd G5 td (.dK vs')) := Ex.new z3
    have gt : Dx K (eTimers ts) (.ref td) (upd G5 td (.dK vs')) := ⟨td, vs', rfl, upd_same, kds_ex e6 hk⟩
    have e36 := (e3.trans (e4.trans e5)).trans e6
    have E6 := E2.trans e36
    have gp6 := mo_Pl _ _ _ e36 gp
    have gl6 := mo_Dx _ _ _ e36 gl
    have gs6 := g2'.ex (e2.trans e36)
    have q0 : q0ok (pl, wir, loads, ts) := ⟨hp, hw, hf, hld, hts⟩
    generalize hG6 : upd G5 td (.dK vs') = G6 at *
    have wirE : ∀ {σ : St} {G' : Hp}, σ[2]? = some (some vs) → Ex G6 G' → Ev (tOp (rIx K) (tVar 2) (tC (.int 4))) σ G' (D K (eOpts wir)) := fun h0 e => ev_ixT (i := 4) (ev_v h0 (gs6.ex e)) (ev_int 4) rfl
    -- the law's own days
    refine s_set z2 (Ev.l (e_lcM (K := K) (xs := List.range 12) (enc := fun (n : Nat) => PyData.int (n : Nat)) (fun n => PyData.list (ePairs (dayP pl wir loads ts n))) (ei_range1 (ev_int 12) (by omega)) (by rw [List.length_range]; omega) (fun _ => rfl) fun n x G' hm e rx => c__law_day (C := C) (pl, [eOpts wir], wir, loads, ts, n) (ea_d (ev_v rfl ((show D K (eS pl [eOpts wir]) vs G6 from gs6).ex e)) (ea_d (wirE rfl e) (ea_cons (ev_var rfl mo_Dx (mo_Dx _ _ _ e gl6)) mo_Dx (ea_cons (ev_var rfl mo_Dk (mo_Dx _ _ _ e gt).dk) mo_Dk (ea_d (ev_v rfl rx) ea_nil))))) ⟨hp, hw, hld, fun q hq => (hts.2.2 q hq).2⟩)) fun v9 G7 e7 d7 q9 => ?_
    have dayG : ∀ n, n < 12 → ((List.range 12).map fun n => PyData.list (ePairs (dayP pl wir loads ts n)))[n]? = some (.list (ePairs (dayP pl wir loads ts n))) := fun n h => by rw [List.getElem?_map, List.getElem?_range h]; rfl
    have fineD : ∀ n, SeqAt.shaped (.list (ePairs (dayP pl wir loads ts n))) = true := fun n => (fine_list (n := 1) fine_pairs).shaped (by omega)
    refine s_forR3 (ap := a) d7 ok (ed_takenI (C := C) 4 fr rfl ((hd0.ex E6).ex e7) (ev_int 4) (by decide) (by decide)) fun vi G8 p8 s8 m8 ok8 e8 d8 hvi => ?_
    obtain ⟨_, ⟨i0, hi0, rfl⟩, gi⟩ := hvi
    obtain ⟨nn, hrg, hrb⟩ := rgc3 (i := i0) (by omega)
    generalize hFr : rowF F r a p8 s8 m8 = Fr at *
    have e78 := e7.trans e8
    refine s_for d8 (ei_range3 (ev_cp gi) (ev_int 12) (ev_int 3) hrg) fun G9 e9 d9 => ⟨fun i σ G' F' => F' = Fr ∧ ∃ o8, σ = [some (.ref a), some (.ref r), some vs, some vp, some vl, some (.ref td), o6, o7, o8, some v9, none, none, none, none, none, none, none, none, none, none, none], ⟨rfl, none, rfl⟩, ?_, fun _ _ _ _ _ _ h => h, ?_⟩
    · rintro i kk x σ' G10 F' hi e10 d10 rx ⟨rfl, o8, rfl⟩
      have hkk : kk < nn := by
        have := List.mem_of_getElem? hi
        exact List.mem_range.mp this
      have hb := hrb kk hkk
      obtain ⟨num, hnum⟩ : ∃ num : Nat, i0 + (kk : Int) * 3 = num := ⟨(i0 + (kk : Int) * 3).toNat, by omega⟩
      have rx : D K (.int (i0 + (kk : Int) * 3)) x G10 := rx
      rw [hnum] at rx hb
      have hn12 : num < 12 := by omega
      have e610 := e78.trans (e9.trans e10)
      refine (eg_name (G := G10)) G10 (Ex.refl _) _ d10 _ fun σ2 hs2 => ?_
      subst hs2
      refine s_no d10 ((et_test (ev_neD (c_day (C := C) ((pl, wir, loads, ts), num) (ea_cons (ev_var rfl mo_Pl (mo_Pl _ _ _ e610 gp6)) mo_Pl (ea_d (wirE rfl e610) (ea_cons (ev_var rfl mo_Dk (mo_Dx _ _ _ e610 gl6).dk) mo_Dk (ea_cons (ev_var rfl mo_Dk (mo_Dx _ _ _ e610 gt).dk) mo_Dk (ea_d (ev_v rfl rx) ea_nil))))) ⟨q0, Nat.le_trans (Nat.le_of_lt hn12) (by decide)⟩) (ev_ixL (i := num) (ev_v rfl (q9.ex (e8.trans (e9.trans e10)))) (ev_v rfl rx) (dayG num hn12)) (fineD num) (fineD num))).of ?_) fun G11 e11 d11 => s_nx (s_nx (s_iv (e10.trans e11) d11 rfl ⟨rfl, _, rfl⟩))
      show (!PyData.eqv (.list (ePairs (dayP pl wir loads ts num))) (.list (ePairs (dayP pl wir loads ts num)))) = false
      rw [PyData.eqv, eqvR_pairs]
      rfl
    · rintro σ' G10 F' e10 d10 ⟨rfl, o8, rfl⟩
      have e610 := e78.trans (e9.trans e10)
      have q910 := q9.ex (e8.trans (e9.trans e10))
      -- the counts
      refine s_new d10 fun l n10 fl d11 => ?_
      refine s_for d11 (ei_range1 (K := K) (n := pl.rates.length) ((ev_lenT (ds := pl.rates.map PyData.int) (ev_ixT (i := 0) (ev_v rfl (gs6.ex e610)) (ev_int 0) rfl)).of (by rw [List.length_map])) (by omega)) fun G12 e12 d12 => ⟨fun i σ G' F2 => ∃ xs : List V, F2 = upd F' l (.lst xs) ∧ DpAll K G' xs ((List.range i).map fun b => .list (cRow (pl, wir, loads, ts) b)) ∧ ∃ o11 o15, σ = [some (.ref a), some (.ref r), some vs, some vp, some vl, some (.ref td), o6, o7, o8, some v9, some (.ref l), o11, none, none, none, o15, none, none, none, none, none], ⟨[], rfl, .nil, none, none, rfl⟩, ?_, ?_, ?_⟩
      · rintro i br x σ' G13 F2 hi e13 d13 rx ⟨xs, rfl, hx, o11, o15, rfl⟩
        have hil : i < pl.rates.length := by
          have := (List.getElem?_eq_some_iff.mp hi).1
          rwa [List.length_range] at this
        have hbr : br = i := by
          rw [List.getElem?_range hil] at hi
          exact (Option.some.inj hi).symm
        subst hbr
        have rx : D K (.int (br : Int)) x G13 := rx
        have e613 := e610.trans (e12.trans e13)
        have q913 := q910.ex (e12.trans e13)
        have hxl := dpA_len hx
        rw [List.length_map, List.length_range] at hxl
        refine (eg_name (G := G13)) G13 (Ex.refl _) _ d13 _ fun σ2 hs2 => ?_
        subst hs2
        refine s_app (P := D K (.list (cRow (pl, wir, loads, ts) br))) d13 upd_same rfl (by omega) (Ev.l (e_lcM (K := K) (xs := List.range 12) (enc := fun n => PyData.list (ePairs (dayP pl wir loads ts n))) (fun n => PyData.int ((cnt pl wir loads ts br n : Nat) : Int)) (ei_list (ev_v rfl q913)) (by rw [List.length_range]; omega) (fun _ => rfl) fun n y G' hm e ry => ?_)) fun v14 G14 e14 d14 qv => ?_
        · have ry : D K (.list ((dayP pl wir loads ts n).map fun pq => PyData.tuple [.int (pq.1 : Int), .int (pq.2 : Int)])) y G' := ry
          refine (ev_lenL (Ev.l (e_lcP (K := K) (xs := dayP pl wir loads ts n) (e1 := fun pq => PyData.int (pq.1 : Int)) (e2 := fun pq => PyData.int (pq.2 : Int)) (fun pq => decide (pq.2 = br)) (fun _ => PyData.int 1) (ei_list (enc := fun (pq : Nat × Nat) => PyData.tuple [.int (pq.1 : Int), .int (pq.2 : Int)]) (ev_v rfl ry)) (Nat.le_trans (dayP_len hp) (by decide)) (fun _ _ => rfl) (fun pq y1 y2 G2 hm2 e2' r1 r2 => (et_test (ev_eqD (d := .int (pq.2 : Int)) (e := .int (br : Int)) (ev_v rfl r2) (ev_v rfl ((rx.ex e).ex e2')) rfl rfl)).of ?_) fun pq y1 y2 G2 hm2 e2' r1 r2 hf => ev_int 1))).of ?_
          · rw [eqvI]
            exact decide_eq_decide.mpr (by omega)
          · rw [List.length_map, len_cnt]
        · rw [upd_upd] at d14 ⊢
          obtain ⟨rb, rys, rfl, _, _⟩ := D.lst qv
          have hx14 : DpAll K G14 (xs ++ [.ref rb]) ((List.range (br + 1)).map fun b => .list (cRow (pl, wir, loads, ts) b)) := by
            rw [List.range_succ, List.map_append]
            exact dpA_app (dpA_ex e14 _ _ hx) (.cons qv .nil)
          have gl14 : G14 l = none := d14.n upd_same
          have cg : D K (.list ((List.range (br + 1)).map fun b => .list (cRow (pl, wir, loads, ts) b))) (.ref l) (upd G14 l (.lst (xs ++ [.ref rb]))) := dLst upd_same (dpA_ex (Ex.new gl14) _ _ hx14)
          refine s_setBi (K := K) (is := ((List.range 12).filter fun n => decide (0 < cnt pl wir loads ts br n)).map fun (n : Nat) => PyData.int (n : Nat)) d14 fl (fun d hd => by obtain ⟨n, _, rfl⟩ := List.mem_map.mp hd; exact ⟨_, rfl⟩) (e_lcN (K := K) (xs := List.range 12) (enc := fun (n : Nat) => PyData.int (n : Nat)) (fun n => decide (0 < cnt pl wir loads ts br n)) (fun (n : Nat) => PyData.int (n : Nat)) (ei_range1 (ev_int 12) (by omega)) (by rw [List.length_range]; omega) (fun _ => rfl) (fun n y G' hm e ry => ?_) fun n y G' hm e ry hf => ev_v rfl ry) fun v15 G15 e15 d15 q15 => ?_
          · have hn := List.mem_range.mp hm
            have ry : D K (.int (n : Int)) y G' := ry
            refine (et_test (ev_gt (ev_ixL (i := n) (ev_ixL (i := br) (ev_v rfl (cg.ex e)) (ev_v rfl (((rx.ex e14).ex (Ex.new gl14)).ex e)) (by rw [List.getElem?_map, List.getElem?_range (Nat.lt_succ_self _)]; rfl)) (ev_v rfl ry) (cRow_get hn)) (ev_int 0))).of ?_
            exact decide_eq_decide.mpr (by show (0 : Int) < ((cnt pl wir loads ts br n : Nat) : Int) ↔ _; omega)
          · have e615 := (e613.trans e14).trans e15
            have q15 := q15.d
            have hh : (List.range 12).find? (fun n => decide (0 < cnt pl wir loads ts br n)) = ((List.range 12).filter fun n => decide (0 < cnt pl wir loads ts br n)).head? := List.head?_filter.symm
            have hA : Ev (tCall (sp_first_day K C) [] E0 (tCons (tVar 3) (tCons (tOp (rIx K) (tVar 2) (tC (.int 4))) (tCons (tVar 4) (tCons (tVar 5) (tCons (tVar 11) (tNil))))))) [some (.ref a), some (.ref r), some vs, some vp, some vl, some (.ref td), o6, o7, o8, some v9, some (.ref l), some x, none, none, none, some v15, none, none, none, none, none] G15 (D K (eOpt ((List.range 12).find? fun n => decide (0 < cnt pl wir loads ts br n)))) := c_first_day (C := C) ((pl, wir, loads, ts), br) (ea_cons (ev_var rfl mo_Pl (mo_Pl _ _ _ e615 gp6)) mo_Pl (ea_d (wirE rfl e615) (ea_cons (ev_var rfl mo_Dk (mo_Dx _ _ _ e615 gl6).dk) mo_Dk (ea_cons (ev_var rfl mo_Dx (mo_Dx _ _ _ e615 gt)) mo_Dx (ea_d (ev_v rfl ((rx.ex e14).ex e15)) ea_nil))))) ⟨q0, hil⟩
            rw [hh] at hA
            generalize hfl : (List.range 12).filter (fun n => decide (0 < cnt pl wir loads ts br n)) = fl' at *
            have hB : Ev (tIf (tTest (tOp (rNeD K) (tVar 15) (tLst (tNil)))) (tOp (rIx K) (tVar 15) (tC (.int 0))) (tC .non)) [some (.ref a), some (.ref r), some vs, some vp, some vl, some (.ref td), o6, o7, o8, some v9, some (.ref l), some x, none, none, none, some v15, none, none, none, none, none] G15 (D K (eOpt fl'.head?)) := by
              refine ev_if (b := !decide (fl'.map (fun (n : Nat) => PyData.int (n : Nat)) = [])) ((et_test (ev_neD (ev_v rfl q15) (Ev.l (ev_lst0 (K := K) (ds := []) ea_nil (by simp))) ((fine_list (n := 1) fine_nats).shaped (by omega)) rfl)).of (by rw [eqv_nil])) (fun hb => ?_) fun hb => ?_
              · cases fl' with
                | nil => simp at hb
                | cons f0 rest => exact ev_ixL (i := 0) (ev_v rfl q15) (ev_int 0) rfl
              · cases fl' with
                | nil => exact ev_non (K := K)
                | cons f0 rest => simp at hb
            generalize fl'.head? = fdv at hA hB
            refine s_no d15 ((et_test (ev_neD hA hB (shapedOpt fdv) (shapedOpt fdv))).of (by rw [eqvOpt]; rfl)) fun G16 e16 d16 => s_nx (s_nx (s_iv ((e13.trans e14).trans (e15.trans e16)) d16 rfl ⟨_, rfl, dpA_ex (e15.trans e16) _ _ hx14, _, _, rfl⟩))
      · rintro i σ' G0 G' F2 e ⟨xs, h1, h2, h3⟩
        exact ⟨xs, h1, dpA_ex e _ _ h2, h3⟩
      · rintro σ' G13 F2 e13 d13 ⟨xs, rfl, hx, o11, o15, rfl⟩
        rw [List.length_range] at hx
        have gl13 : G13 l = none := d13.n upd_same
        rw [upd_lr gl13]
        have d14 : Dj (upd G13 l (.lst xs)) F' := (d13.off fl).newL fl
        have cg : D K (.list ((List.range pl.rates.length).map fun b => .list (cRow (pl, wir, loads, ts) b))) (.ref l) (upd G13 l (.lst xs)) := dLst upd_same (dpA_ex (Ex.new gl13) _ _ hx)
        have e614 := (e610.trans (e12.trans e13)).trans (Ex.new (o := .lst xs) gl13)
        have q914 := (q910.ex (e12.trans e13)).ex (Ex.new (o := .lst xs) gl13)
        generalize hG14 : upd G13 l (.lst xs) = G14 at *
        have tuE : ∀ {σ : St} {G' : Hp} {te : TE} {m : Nat}, σ[2]? = some (some vs) → σ[3]? = some (some vp) → σ[4]? = some (some vl) → σ[5]? = some (some (.ref td)) → Ex G6 G' → m ≤ 10 ^ 18 → Ev te σ G' (D K (.int (m : Int))) → Ev (tCall (sp_trips_until K C) [] E0 (tCons (tVar 3) (tCons (tOp (rIx K) (tVar 2) (tC (.int 4))) (tCons (tVar 4) (tCons (tVar 5) (tCons te (tNil))))))) σ G' (D K (.tuple (((List.range pl.rates.length).map fun b => ((sumTo (cnt pl wir loads ts b) m : Nat) : Int)).map PyData.int))) := fun {σ G' te m} h2 h3 h4 h5 e hm he => (c_trips_until (C := C) ((pl, wir, loads, ts), m) (ea_cons (ev_var h3 mo_Pl (mo_Pl _ _ _ e gp6)) mo_Pl (ea_d (wirE h2 e) (ea_cons (ev_var h4 mo_Dk (mo_Dx _ _ _ e gl6).dk) mo_Dk (ea_cons (ev_var h5 mo_Dx (mo_Dx _ _ _ e gt)) mo_Dx (ea_d he ea_nil))))) ⟨q0, hm⟩).of (by rw [List.map_map]; rfl)
        have shI : ∀ l : List Int, SeqAt.shaped (.tuple (l.map PyData.int)) = true := fun l => (fine_tup (n := 1) fine_ints).shaped (by omega)
        have eqT : ∀ l : List Int, (!PyData.eqv (.tuple (l.map PyData.int)) (.tuple (l.map PyData.int))) = false := fun l => by
          rw [PyData.eqv, eqvR_ints]
          rfl
        refine s_for d14 (ei_tup (as := [0, 1, 5, 12]) (enc := fun (n : Nat) => PyData.int (n : Int)) (ev_tup (ds := [.int 0, .int 1, .int 5, .int 12]) (ea_d (ev_int 0) (ea_d (ev_int 1) (ea_d (ev_int 5) (ea_d (ev_int 12) ea_nil)))) (by simp))) fun G15 e15 d15 => ⟨fun i σ G' F2 => F2 = F' ∧ ∃ o16, σ = [some (.ref a), some (.ref r), some vs, some vp, some vl, some (.ref td), o6, o7, o8, some v9, some (.ref l), o11, none, none, none, o15, o16, none, none, none, none], ⟨rfl, none, rfl⟩, ?_, fun _ _ _ _ _ _ h => h, ?_⟩
        · rintro i many x σ' G16 F2 hi e16 d16 rx ⟨rfl, o16, rfl⟩
          have hm12 : many ≤ 12 := by
            have := List.mem_of_getElem? hi
            simp at this
            omega
          have rx : D K (.int (many : Int)) x G16 := rx
          have e616 := e614.trans (e15.trans e16)
          have cg16 := cg.ex (e15.trans e16)
          refine (eg_name (G := G16)) G16 (Ex.refl _) _ d16 _ fun σ2 hs2 => ?_
          subst hs2
          have hA := tuE (σ := [some (.ref a), some (.ref r), some vs, some vp, some vl, some (.ref td), o6, o7, o8, some v9, some (.ref l), o11, none, none, none, o15, some x, none, none, none, none]) (te := tVar 16) rfl rfl rfl rfl e616 (Nat.le_trans hm12 (by decide)) (ev_v rfl rx)
          have hB : Ev (tCB (rTupC K) (tCons (tLc (iList K (tVar 10)) (gName 12) (tYes) (tCB (rSum K) (tCons (tSl (rCut K) (tVar 12) (tNoPart) (tPart (tVar 16))) (tNil))) [12]) (tNil))) [some (.ref a), some (.ref r), some vs, some vp, some vl, some (.ref td), o6, o7, o8, some v9, some (.ref l), o11, none, none, none, o15, some x, none, none, none, none] G16 (D K (.tuple (((List.range pl.rates.length).map fun b => ((sumTo (cnt pl wir loads ts b) many : Nat) : Int)).map PyData.int))) := (ev_tupL (Ev.l (e_lcM (K := K) (xs := List.range pl.rates.length) (enc := fun b => PyData.list (cRow (pl, wir, loads, ts) b)) (fun b => PyData.int ((sumTo (cnt pl wir loads ts b) many : Nat) : Int)) (ei_list (ev_v rfl cg16)) (by rw [List.length_range]; omega) (fun _ => rfl) fun b y G' hm e ry => cut_row (a := (pl, wir, loads, ts)) (ev_v rfl ry) (ev_v rfl (rx.ex e)) hm12))).of (by rw [List.map_map]; rfl)
          generalize ((List.range pl.rates.length).map fun b => ((sumTo (cnt pl wir loads ts b) many : Nat) : Int)) = il at hA hB
          exact s_no d16 ((et_test (ev_neD hA hB (shI il) (shI il))).of (eqT il)) fun G17 e17 d17 => s_nx (s_nx (s_iv (e16.trans e17) d17 rfl ⟨rfl, _, rfl⟩))
        · rintro σ' G16 F2 e16 d16 ⟨rfl, o16, rfl⟩
          have e616 := e614.trans (e15.trans e16)
          have cg16 := cg.ex (e15.trans e16)
          have q916 := q914.ex (e15.trans e16)
          rw [← hFr] at d16 ⊢
          refine s_tgtD (ap := a) d16 ok8 (ed_tup2 (ed_int2 (Cc := fun i => 0 ≤ i ∧ i ≤ 20000000000000000) (· + ·) (ed_intc (ev_I (d := .int ((10 : Int) ^ (16 : Nat))) (ev_int 10) (ev_int 16) ⟨by decide, by decide, by decide⟩ fun _ => dInt _)) (ed_takenI (C := C) 9 fr rfl ((hd0.ex E6).ex e616) (ev_int 9) (by decide) (by decide)) (fun i j v w G' _ _ h1 h2 => ev_plusI h1 h2) (fun i j hi hj => far_ok hi hj)) (ed_takenI (C := C) 12 fr rfl ((hd0.ex E6).ex e616) (ev_int 12) (by decide) (by decide))) fun vt G17 p17 s17 m17 ok17 e17 d17 hvt => ?_
          obtain ⟨_, ⟨_, _, ⟨far, hfar, rfl⟩, ⟨rs, hrs, rfl⟩, rfl⟩, gvt⟩ := hvt
          obtain ⟨fn, rfl⟩ : ∃ fn : Nat, far = fn := ⟨far.toNat, by omega⟩
          obtain ⟨rn, rfl⟩ : ∃ rn : Nat, rs = rn := ⟨rs.toNat, by omega⟩
          have hfn : fn ≤ 20000000000000000 := by omega
          have hrn : rn < 12 := by omega
          have h18 : (10 : Nat) ^ 18 = 1000000000000000000 := by decide
          refine (eg_pair gvt) G17 (Ex.refl _) _ d17 _ fun σ3 ⟨v17, v18, hs3, r17, r18⟩ => ?_
          subst hs3
          have e617 := e616.trans e17
          have cg17 := cg16.ex e17
          -- what is due
          refine s_set d17 (due_ev (K := K) (row := cRow (pl, wir, loads, ts)) (N := pl.rates.length) (fn := fn) (rn := rn) (S := fun b => ((sumTo (cnt pl wir loads ts b) 12 : Nat) : Int)) (R := fun b => ((sumTo (cnt pl wir loads ts b) rn : Nat) : Int)) (g := fun b => ((sumTo (cnt pl wir loads ts b) (12 * fn + rn) : Nat) : Int)) (fun {b σ G te} h => sum_row (a := (pl, wir, loads, ts)) h) (fun {b σ G ta tb} h1 h2 => cut_row (a := (pl, wir, loads, ts)) h1 h2 (Nat.le_of_lt hrn)) (fun b => due_int (fun n => cnt_mod (lenOf_dvd fun q hq => (hts.2.2 q hq).2))) (by omega) (by omega) cg17 r17 r18 rfl rfl rfl (fun _ => rfl) (fun _ => rfl) (fun _ => rfl) (fun _ => rfl)) fun v19 G18 e18 d18 q19 => ?_
          have e618 := e617.trans e18
          have hA := tuE (σ := [some (.ref a), some (.ref r), some vs, some vp, some vl, some (.ref td), o6, o7, o8, some v9, some (.ref l), o11, none, none, none, o15, o16, some v17, some v18, some v19, none]) (te := tOp (rPlus3 K) (tOp (rI CMul fun i j => .int (i * j)) (tC (.int 12)) (tVar 17)) (tVar 18)) (m := 12 * fn + rn) rfl rfl rfl rfl e618 (by omega) ((ev_plusI (ev_I (C := CMul) (d := .int (12 * (fn : Int))) (ev_int 12) (ev_v rfl (r17.ex e18)) (.inl ⟨by decide, by decide⟩) fun _ => dInt _) (ev_v rfl (r18.ex e18))).of (by rw [Int.natCast_add, Int.natCast_mul]; rfl))
          have hB : Ev (tVar 19) [some (.ref a), some (.ref r), some vs, some vp, some vl, some (.ref td), o6, o7, o8, some v9, some (.ref l), o11, none, none, none, o15, o16, some v17, some v18, some v19, none] G18 (D K (.tuple (((List.range pl.rates.length).map fun b => ((sumTo (cnt pl wir loads ts b) (12 * fn + rn) : Nat) : Int)).map PyData.int))) := ev_v rfl q19
          generalize ((List.range pl.rates.length).map fun b => ((sumTo (cnt pl wir loads ts b) (12 * fn + rn) : Nat) : Int)) = il at hA hB
          refine s_no d18 ((et_test (ev_neD hA hB (shI il) (shI il))).of (eqT il)) fun G19 e19 d19 => s_nx ?_
          have e619 := e618.trans e19
          refine s_set d19 (c_fewest_shifts (C := C) (pl, wir, loads, ts) (ea_cons (ev_var rfl mo_Pl (mo_Pl _ _ _ e619 gp6)) mo_Pl (ea_d (wirE rfl e619) (ea_cons (ev_var rfl mo_Dk (mo_Dx _ _ _ e619 gl6).dk) mo_Dk (ea_cons (ev_var rfl mo_Dx (mo_Dx _ _ _ e619 gt)) mo_Dx (ea_d (ev_int 0) ea_nil))))) q0) fun v20 G20 e20 d20 q20 => ?_
          have q20 : D K (if quietB (pl, wir, loads, ts) then .list [] else .none) v20 G20 := q20
          have q920 := ((q916.ex (e17.trans e18)).ex e19).ex e20
          have hdays : (((List.range 12).filter fun n => !decide (ePairs (dayP pl wir loads ts n) = [])).map (fun n => PyData.list (ePairs (dayP pl wir loads ts n))) = []) ↔ quietB (pl, wir, loads, ts) = true := by
            rw [List.map_eq_nil_iff, List.filter_eq_nil_iff]
            unfold quietB
            rw [List.all_eq_true]
            refine forall_congr' fun n => forall_congr' fun hn => ?_
            show ¬ (!decide (ePairs (dayP pl wir loads ts n) = [])) = true ↔ (dayP pl wir loads ts n).isEmpty = true
            unfold ePairs
            cases dayP pl wir loads ts n <;> simp
          have hC : Ev (tIf (tTest (tOp (rEqD K) (tLc (iList K (tVar 9)) (gName 12) (tTest (tOp (rNeD K) (tVar 12) (tLst (tNil)))) (tVar 12) [12]) (tLst (tNil)))) (tLst (tNil)) (tC .non)) [some (.ref a), some (.ref r), some vs, some vp, some vl, some (.ref td), o6, o7, o8, some v9, some (.ref l), o11, none, none, none, o15, o16, some v17, some v18, some v19, some v20] G20 (D K (if quietB (pl, wir, loads, ts) then .list [] else .none)) := by
            refine ev_if (b := quietB (pl, wir, loads, ts)) ((et_test (ev_eqD (Ev.l (e_lcN (K := K) (xs := List.range 12) (enc := fun n => PyData.list (ePairs (dayP pl wir loads ts n))) (fun n => !decide (ePairs (dayP pl wir loads ts n) = [])) (fun n => PyData.list (ePairs (dayP pl wir loads ts n))) (ei_list (ev_v rfl q920)) (by rw [List.length_range]; omega) (fun _ => rfl) (fun n y G' hm e ry => (et_test (ev_neD (ev_v rfl ry) (Ev.l (ev_lst0 (K := K) (ds := []) ea_nil (by simp))) (fineD n) rfl)).of (by rw [eqv_nil])) fun n y G' hm e ry hf => ev_v rfl ry)) (Ev.l (ev_lst0 (K := K) (ds := []) ea_nil (by simp))) ((fine_list (n := 2) fun d hd => by obtain ⟨n, _, rfl⟩ := List.mem_map.mp hd; exact fine_list (n := 1) fine_pairs).shaped (by omega)) rfl)).of ?_) (fun hb => ?_) fun hb => ?_
            · rw [eqv_nil, Bool.eq_iff_iff, decide_eq_true_eq]
              exact hdays
            · rw [hb]
              exact Ev.l (ev_lst0 (K := K) (ds := []) ea_nil (by simp))
            · rw [hb]
              exact ev_non (K := K)
          generalize quietB (pl, wir, loads, ts) = qb at q20 hC
          have shq : SeqAt.shaped (if qb = true then PyData.list [] else .none) = true := by cases qb <;> rfl
          have eqq : PyData.eqv (if qb = true then PyData.list [] else .none) (if qb = true then PyData.list [] else .none) = true := by cases qb <;> rfl
          refine s_ret d20 ((ev_eqD (ev_v (i := 20) rfl q20) hC shq shq).of (d' := .bool true) (by rw [eqq])) fun v G21 e21 d21 pv => ?_
          obtain rfl := D.bl pv
          exact k _

end
end Bf
set_option Elab.async false
set_option linter.all false
set_option maxRecDepth 100000
set_option maxHeartbeats 4000000
namespace Bf
open PySem PyProof.Rows L2
section
variable {P : Program} {w : World} {K : PySem.W.Frag} {mg : Str → Option Value} {base : Heap} {C : Addr}
/-! ### from what the top leaves to the law's words. Printed by gen27.py -/
/-- the property f of the plan's class -/
structure PrB (K : PySem.W.Frag) (C : Addr) (f qual : Str) (st : Stmt) : Prop where
  ex : ∃ p g, PySem.W.findIn K (.ref C) f = some (some (.ref p)) ∧ PySem.W.specialIn K (.ref p) "__get__" = some (some (.builtin "property.__get__")) ∧ PySem.W.takesIn K (.ref p) = some true ∧ (∃ rest, PySem.W.recIn K p "property" = some (.ref g :: rest)) ∧ Dm K f qual st g
structure Tops (K : PySem.W.Frag) (mg : Str → Option Value) (C CQ : Addr) : Prop where
  T : Txf mg
  hf : PlF K C
  hQ : QuC K CQ
  pi : ∃ g, Mk K C g ∧ mg "Plan" = some (.ref C) ∧ Dmi K "__init__" "Plan.__init__" st_Plan___init__ [.str "free"] g
  qi : ∃ g, Mk K CQ g ∧ mg "Quiet" = some (.ref CQ) ∧ Dm K "__init__" "Quiet.__init__" st_Quiet___init__ g
  m1 : ∃ g, Cls K CQ ∧ Meth K CQ "does_run" g ∧ Dm K "does_run" "Quiet.does_run" st_Quiet_does_run g
  m2 : ∃ g, Cls K CQ ∧ Meth K CQ "is_quiet" g ∧ Dm K "is_quiet" "Quiet.is_quiet" st_Quiet_is_quiet g
  p1 : PrB K C "rates" "Plan.rates" st_Plan_rates
  p2 : PrB K C "above" "Plan.above" st_Plan_above
  p3 : PrB K C "points" "Plan.points" st_Plan_points
  p4 : PrB K C "rule" "Plan.rule" st_Plan_rule
  p5 : PrB K C "names" "Plan.names" st_Plan_names
  ln : ∃ g, PySem.W.findIn K (.ref C) "__len__" = some (some (.ref g)) ∧ PySem.W.isFn K (.ref g) = true ∧ Dm K "__len__" "Plan.__len__" st_Plan___len__ g
  al : mg "does_run_running" = mg "does_run"
  d_is_number : Df K mg "is_number" st_is_number
  d_is_word : Df K mg "is_word" st_is_word
  d_are_rates : Df K mg "are_rates" st_are_rates
  d_line_up : Df K mg "line_up" st_line_up
  d_is_point : Df K mg "is_point" st_is_point
  d_are_points : Df K mg "are_points" st_are_points
  d_all_on : Df K mg "all_on" st_all_on
  d_has_power : Df K mg "has_power" st_has_power
  d_does_follow : Df K mg "does_follow" st_does_follow
  d_is_wiring : Df K mg "is_wiring" st_is_wiring
  d_check_wiring : Df K mg "check_wiring" st_check_wiring
  d_check_breaker : Df K mg "check_breaker" st_check_breaker
  d_check_count : Df K mg "check_count" st_check_count
  d_is_timer : Df K mg "is_timer" st_is_timer
  d_currents_in : Df K mg "currents_in" st_currents_in
  d_are_above : Df K mg "are_above" st_are_above
  d_wrong_load : Df K mg "wrong_load" st_wrong_load
  d_check_loads : Df K mg "check_loads" st_check_loads
  d_check_timed : Df K mg "check_timed" st_check_timed
  d_names_on : Df K mg "names_on" st_names_on
  d_trips_in : Df K mg "trips_in" st_trips_in
  d_does_run : Df K mg "does_run" st_does_run
  d_loads_at : Df K mg "loads_at" st_loads_at
  d_trips_of : Df K mg "trips_of" st_trips_of
  d_day : Df K mg "day" st_day
  d_length_of : Df K mg "length_of" st_length_of
  d_day_rows : Df K mg "day_rows" st_day_rows
  d_trips_until : Df K mg "trips_until" st_trips_until
  d_first_day : Df K mg "first_day" st_first_day
  d__law_plan : Df K mg "_law_plan" st__law_plan
  d_all_shifts : Df K mg "all_shifts" st_all_shifts
  d_shifted : Df K mg "shifted" st_shifted
  d_fewest_shifts : Df K mg "fewest_shifts" st_fewest_shifts
  d__law_taken : Df K mg "_law_taken" st__law_taken
  d__law_pick : Df K mg "_law_pick" st__law_pick
  d__law_mixed : Df K mg "_law_mixed" st__law_mixed
  d__law_loads : Df K mg "_law_loads" st__law_loads
  d__law_has : Df K mg "_law_has" st__law_has
  d__law_lit : Df K mg "_law_lit" st__law_lit
  d__law_under : Df K mg "_law_under" st__law_under
  d__law_flows : Df K mg "_law_flows" st__law_flows
  d__law_tripped : Df K mg "_law_tripped" st__law_tripped
  d__law_wirings : Df K mg "_law_wirings" st__law_wirings
  d__law_day : Df K mg "_law_day" st__law_day
  d__law_scheme : Df K mg "_law_scheme" st__law_scheme
theorem PrB.x {C : Addr} {f qual : Str} {st : Stmt} {sp : Sp} (h : PrB K C f qual st) (hf : PlF K C) (F : ∀ g, Dm K f qual st g → FnR P w K mg base CX0 1 g sp) : PrX P w K mg base C 1 f sp := by
  obtain ⟨p, g, h1, h2, h3, h4, h5⟩ := h.ex
  exact ⟨hf.sc, p, g, h1, h2, h3, h4, F g h5⟩
theorem law_words {CQ : Addr} (t : Tops K mg C CQ) : LawD P w K mg base C := by
  have T := t.T
  have hf := t.hf
  have hQ := t.hQ
  have PP : PlP P w K mg base C := by
    obtain ⟨g, h1, h2, h3⟩ := t.ln
    exact ⟨t.p1.x hf fun g h => fr_rates h T hf, t.p2.x hf fun g h => fr_above h T hf, t.p3.x hf fun g h => fr_points h T hf, t.p4.x hf fun g h => fr_rule h T hf, t.p5.x hf fun g h => fr_names h T hf, ⟨g, h1, h2, fr_len h3 T hf⟩⟩
  have D_is_number := fd_is_number (P := P) (w := w) (base := base) (C := C) t.d_is_number T
  have D_is_word := fd_is_word (P := P) (w := w) (base := base) (C := C) t.d_is_word T
  have D_are_rates := fd_are_rates (P := P) (w := w) (base := base) (C := C) t.d_are_rates T (by assumption)
  have D_line_up := fd_line_up (P := P) (w := w) (base := base) (C := C) t.d_line_up T (by assumption)
  have D_is_point := fd_is_point (P := P) (w := w) (base := base) (C := C) t.d_is_point T (by assumption) (by assumption)
  have D_are_points := fd_are_points (P := P) (w := w) (base := base) (C := C) t.d_are_points T (by assumption)
  have D_all_on := fd_all_on (P := P) (w := w) (base := base) (C := C) t.d_all_on T (by assumption)
  have D_has_power := fd_has_power (P := P) (w := w) (base := base) (C := C) t.d_has_power T (by assumption)
  have D_does_follow := fd_does_follow (P := P) (w := w) (base := base) (C := C) t.d_does_follow T (by assumption)
  have D_is_wiring := fd_is_wiring (P := P) (w := w) (base := base) (C := C) t.d_is_wiring T (by assumption) (by assumption) (by assumption)
  have D_check_wiring := fd_check_wiring (P := P) (w := w) (base := base) (C := C) t.d_check_wiring T (by assumption)
  have D_check_breaker := fd_check_breaker (P := P) (w := w) (base := base) (C := C) t.d_check_breaker T (by assumption) (by assumption)
  have D_check_count := fd_check_count (P := P) (w := w) (base := base) (C := C) t.d_check_count T (by assumption)
  have D_is_timer := fd_is_timer (P := P) (w := w) (base := base) (C := C) t.d_is_timer T (by assumption)
  have D_currents_in := fd_currents_in (P := P) (w := w) (base := base) (C := C) t.d_currents_in T (by assumption) (by assumption) (by assumption)
  have D_are_above := fd_are_above (P := P) (w := w) (base := base) (C := C) t.d_are_above T (by assumption)
  have D_wrong_load := fd_wrong_load (P := P) (w := w) (base := base) (C := C) t.d_wrong_load T (by assumption) (by assumption)
  have D_check_loads := fd_check_loads (P := P) (w := w) (base := base) (C := C) t.d_check_loads T (by assumption)
  have D_check_timed := fd_check_timed (P := P) (w := w) (base := base) (C := C) t.d_check_timed T (by assumption) (by assumption) (by assumption) (by assumption)
  have D_names_on := fd_names_on (P := P) (w := w) (base := base) (C := C) t.d_names_on T
  have D_trips_in := fd_trips_in (P := P) (w := w) (base := base) (C := C) t.d_trips_in T (by assumption) (by assumption)
  have D_does_run := fd_does_run (P := P) (w := w) (base := base) (C := C) t.d_does_run T (by assumption) (by assumption)
  have D_loads_at := fd_loads_at (P := P) (w := w) (base := base) (C := C) t.d_loads_at T
  have D_trips_of := fd_trips_of (P := P) (w := w) (base := base) (C := C) t.d_trips_of T (by assumption) (by assumption) (by assumption)
  have D_day := fd_day (P := P) (w := w) (base := base) (C := C) t.d_day T (by assumption) (by assumption) (by assumption) (by assumption)
  have D_length_of := fd_length_of (P := P) (w := w) (base := base) (C := C) t.d_length_of T
  have D_day_rows := fd_day_rows (P := P) (w := w) (base := base) (C := C) t.d_day_rows T (by assumption) (by assumption) (by assumption)
  have D_trips_until := fd_trips_until (P := P) (w := w) (base := base) (C := C) t.d_trips_until T (by assumption) (by assumption) (by assumption) (by assumption)
  have D_first_day := fd_first_day (P := P) (w := w) (base := base) (C := C) t.d_first_day T (by assumption) (by assumption) (by assumption)
  have MM : MkX P w K mg base C 4 "Plan" (sp_Plan___init__ K C) := by
    obtain ⟨g, h1, h2, h3⟩ := t.pi
    exact ⟨g, h1, fr_plan h3 T hf (by assumption) (by assumption) (by assumption), h2⟩
  have D__law_plan := fd__law_plan (P := P) (w := w) (base := base) (C := C) t.d__law_plan T (by assumption)
  have D_all_shifts := fd_all_shifts (P := P) (w := w) (base := base) (C := C) t.d_all_shifts T
  have D_shifted := fd_shifted (P := P) (w := w) (base := base) (C := C) t.d_shifted T
  have D_dr : FD P w K mg base 7 "does_run_running" ps_does_run (sp_does_run K C) := by
    obtain ⟨f, fd, h1, h2, h3, h4⟩ := D_does_run.ex
    exact ⟨f, fd, h1, t.al.trans h2, h3, h4⟩
  have MQ : MkX P w K mg base CQ 2 "Quiet" (sp_Quiet___init__ K C CQ) := by
    obtain ⟨g, h1, h2, h3⟩ := t.qi
    exact ⟨g, h1, fr_quiet h3 T hQ (by assumption) (by assumption), h2⟩
  have M1 : MeX P w K mg base CQ 8 "does_run" (sp_Quiet_does_run K C CQ) := by
    obtain ⟨g, h1, h2, h3⟩ := t.m1
    exact ⟨g, h1, h2, fr_quiet_does_run h3 T hQ (by assumption)⟩
  have M2 : MeX P w K mg base CQ 9 "is_quiet" (sp_Quiet_is_quiet K C CQ) := by
    obtain ⟨g, h1, h2, h3⟩ := t.m2
    exact ⟨g, h1, h2, fr_quiet_is_quiet h3 T hQ (by assumption) (by assumption)⟩
  have D_fewest_shifts := fd_fewest_shifts (P := P) (w := w) (base := base) (C := C) (CQ := CQ) t.d_fewest_shifts T (by assumption) (by assumption) (by assumption) (by assumption) (by assumption) (by assumption)
  have D__law_taken := fd__law_taken (P := P) (w := w) (base := base) (C := C) t.d__law_taken T
  have D__law_pick := fd__law_pick (P := P) (w := w) (base := base) (C := C) t.d__law_pick T (by assumption)
  have D__law_mixed := fd__law_mixed (P := P) (w := w) (base := base) (C := C) t.d__law_mixed T (by assumption)
  have D__law_loads := fd__law_loads (P := P) (w := w) (base := base) (C := C) t.d__law_loads T (by assumption)
  have D__law_has := fd__law_has (P := P) (w := w) (base := base) (C := C) t.d__law_has T
  have D__law_lit := fd__law_lit (P := P) (w := w) (base := base) (C := C) t.d__law_lit T (by assumption)
  have D__law_under := fd__law_under (P := P) (w := w) (base := base) (C := C) t.d__law_under T
  have D__law_flows := fd__law_flows (P := P) (w := w) (base := base) (C := C) t.d__law_flows T (by assumption) (by assumption)
  have D__law_tripped := fd__law_tripped (P := P) (w := w) (base := base) (C := C) t.d__law_tripped T (by assumption)
  have D__law_wirings := fd__law_wirings (P := P) (w := w) (base := base) (C := C) t.d__law_wirings T
  have D__law_day := fd__law_day (P := P) (w := w) (base := base) (C := C) t.d__law_day T (by assumption)
  have D__law_scheme := fd__law_scheme (P := P) (w := w) (base := base) (C := C) t.d__law_scheme T (by assumption) (by assumption) (by assumption)
  exact ⟨D_fewest_shifts, D_trips_until, D__law_taken, D_first_day, D_day, D__law_day, D__law_mixed, D__law_loads, D__law_plan, D__law_scheme⟩

end
end Bf
set_option Elab.async false
set_option linter.all false
set_option maxRecDepth 100000
set_option maxHeartbeats 0
namespace Bf
open PySem PySem.W PySem.Calls PyProof.Rows L2 BfT
theorem prB_ok {K : PySem.W.Frag} {f qual : PySem.Str} {st : Stmt} (h : prB K f = true) (d : Dm K f qual st (gad K f)) : PrB K (He.ga K "Plan") f qual st := by
  unfold prB at h
  obtain ⟨h1, h2⟩ := He.ba h
  obtain ⟨h3, h4⟩ := He.ba h2
  obtain ⟨h5, h6⟩ := He.ba h4
  refine ⟨_, gad K f, He.eqO_ok h1, He.eqO_ok h3, of_decide_eq_true h5, ?_, d⟩
  unfold gad
  cases e : PySem.W.recIn K (He.ma K (He.ga K "Plan") f) "property" with
  | none => rw [e] at h6; cases h6
  | some l =>
    rw [e] at h6
    cases l with
    | nil => cases h6
    | cons x r =>
      cases x with
      | ref g => exact ⟨r, rfl⟩
      | _ => cases h6
theorem facts {K : PySem.W.Frag} {h : Heap} {mg : PySem.Str → Option Value} (X : K.In h) (G : h.Ns mainGlobals mg) (c : obB fas das K = (true, das.map DA.val)) : Tops K mg (He.ga K "Plan") (He.ga K "Quiet") ∧ ∃ fd, FunD K "law" "law" (defArgs st_law) (defBody st_law) (defScope st_law) [] [] (He.ga K "law") fd ∧ mg "law" = some (.ref (He.ga K "law")) := by
  have c0 : ((fas.all fun f => f.ok K) && (exB K && das.all fun d => d.ok K)) = true := congrArg (fun z : Bool × List He.FnW => z.1) c
  obtain ⟨cf, c1⟩ := He.ba c0
  obtain ⟨ce, cd⟩ := He.ba c1
  have cl : das.map (fun d => fnA K (d.at_ K)) = das.map DA.val := congrArg (fun z : Bool × List He.FnW => z.2) c
  have fact : ∀ (i : Nat) {f : He.Fa}, fas[i]? = some f → f.ok K = true := fun i f h => List.all_eq_true.mp cf f (List.mem_of_getElem? h)
  have defD : ∀ (i : Nat) {d : DA}, das[i]? = some d → ∃ fd, FunD K d.name d.qual (defArgs d.st) (defBody d.st) (defScope d.st) (d.dvs K) [] (d.at_ K) fd := fun i d h => by
    refine DA.funD ?_ (List.all_eq_true.mp cd d (List.mem_of_getElem? h))
    have z := congrArg (fun l : List He.FnW => l[i]?) cl
    simp only [List.getElem?_map, h, Option.map_some, Option.some.injEq] at z
    exact z
  unfold exB at ce
  obtain ⟨ca, ce⟩ := He.ba ce
  obtain ⟨a1, ca⟩ := He.ba ca
  obtain ⟨a2, ca⟩ := He.ba ca
  obtain ⟨a3, a4⟩ := He.ba ca
  obtain ⟨cb, ce⟩ := He.ba ce
  obtain ⟨b1, cb⟩ := He.ba cb
  obtain ⟨b2, cb⟩ := He.ba cb
  obtain ⟨b3, cb⟩ := He.ba cb
  obtain ⟨b4, b5⟩ := He.ba cb
  obtain ⟨ce0, ce⟩ := He.ba ce
  obtain ⟨q1, ce⟩ := He.ba ce
  obtain ⟨q2, ce⟩ := He.ba ce
  obtain ⟨q3, ce⟩ := He.ba ce
  obtain ⟨q4, q5⟩ := He.ba ce
  have T : Txf mg := { f_len := He.free_ok X G (fact 0 (f := .free "len") rfl), f_int := He.free_ok X G (fact 1 (f := .free "int") rfl), f_bool := He.free_ok X G (fact 2 (f := .free "bool") rfl), f_str := He.free_ok X G (fact 3 (f := .free "str") rfl), f_tuple := He.free_ok X G (fact 4 (f := .free "tuple") rfl), f_list := He.free_ok X G (fact 5 (f := .free "list") rfl), f_range := He.free_ok X G (fact 6 (f := .free "range") rfl), f_sum := He.free_ok X G (fact 7 (f := .free "sum") rfl), f_all := He.free_ok X G (fact 8 (f := .free "all") rfl), f_isinstance := He.free_ok X G (fact 9 (f := .free "isinstance") rfl), f_min := He.free_ok X G (fact 10 (f := .free "min") rfl), f_sorted := He.free_ok X G (fact 11 (f := .free "sorted") rfl), f_set := He.free_ok X G (fact 12 (f := .free "set") rfl), f_dict := He.free_ok X G (fact 13 (f := .free "dict") rfl), f_zip := He.free_ok X G (fact 14 (f := .free "zip") rfl), f_enumerate := He.free_ok X G (fact 15 (f := .free "enumerate") rfl), i_MAX_LETTERS := He.int_ok X G (fact 16 (f := .int "MAX_LETTERS" 8) rfl), i_MAX_BREAKERS := He.int_ok X G (fact 17 (f := .int "MAX_BREAKERS" 5) rfl), i_MAX_RATE := He.int_ok X G (fact 18 (f := .int "MAX_RATE" 99) rfl), i_MAX_POINTS := He.int_ok X G (fact 19 (f := .int "MAX_POINTS" 5) rfl), i_MAX_ROOM := He.int_ok X G (fact 20 (f := .int "MAX_ROOM" 9) rfl), i_MAX_LOAD := He.int_ok X G (fact 21 (f := .int "MAX_LOAD" 99) rfl), i_HOURS := He.int_ok X G (fact 22 (f := .int "HOURS" 24) rfl), i_MAX_EVERY := He.int_ok X G (fact 23 (f := .int "MAX_EVERY" 9) rfl), i_MAX_COUNT := He.int_ok X G (fact 24 (f := .int "MAX_COUNT" 1000000000000000000) rfl), i_MAX_SHIFTS := He.int_ok X G (fact 25 (f := .int "MAX_SHIFTS" 2) rfl), s_LETTERS := He.str_ok X G (fact 26 (f := .str "LETTERS" "abcdefghijklmnopqrstuvwxyz") rfl), s_LAMP := He.str_ok X G (fact 27 (f := .str "LAMP" "lamp") rfl), s_PLUG := He.str_ok X G (fact 28 (f := .str "PLUG" "plug") rfl), s_FREE := He.str_ok X G (fact 29 (f := .str "FREE" "free") rfl), s_ROOMS := He.str_ok X G (fact 30 (f := .str "ROOMS" "rooms") rfl) }
  have glo : ∀ (i : Nat) {x : PySem.Str}, fas[i]? = some (.glo x) → mg x = some (.ref (He.ga K x)) := fun i x h => He.glo_ok X G (fact i h)
  have hQ : QuC K (He.ga K "Quiet") := ⟨He.cls_ok (fact 80 (f := .cls "Quiet") rfl), He.noat_ok (fact 81 (f := .noat "Quiet" "plan") rfl), He.noat_ok (fact 82 (f := .noat "Quiet" "wiring") rfl), He.noat_ok (fact 83 (f := .noat "Quiet" "loads") rfl), He.noat_ok (fact 84 (f := .noat "Quiet" "kinds") rfl), He.noat_ok (fact 85 (f := .noat "Quiet" "known") rfl)⟩
  have hf : PlF K (He.ga K "Plan") := ⟨⟨a1, a2, a3, He.eqO_ok a4⟩, _, ⟨He.eqO_ok b1, He.eqO_ok b2, of_decide_eq_true b3, of_decide_eq_true b4, of_decide_eq_true b5, by decide⟩⟩
  refine ⟨{
    T := T,
    hf := hf,
    hQ := hQ,
    pi := ⟨_, He.mkr_ok (fact 88 (f := .mkr "Plan") rfl), glo 78 rfl, ⟨defD 50 rfl⟩⟩,
    qi := ⟨_, He.mkr_ok (fact 89 (f := .mkr "Quiet") rfl), glo 79 rfl, ⟨defD 46 rfl⟩⟩,
    m1 := ⟨_, hQ.c, He.meth_ok (fact 86 (f := .meth "Quiet" "does_run") rfl), ⟨defD 47 rfl⟩⟩,
    m2 := ⟨_, hQ.c, He.meth_ok (fact 87 (f := .meth "Quiet" "is_quiet") rfl), ⟨defD 48 rfl⟩⟩,
    p1 := prB_ok q1 ⟨defD 51 rfl⟩,
    p2 := prB_ok q2 ⟨defD 52 rfl⟩,
    p3 := prB_ok q3 ⟨defD 53 rfl⟩,
    p4 := prB_ok q4 ⟨defD 54 rfl⟩,
    p5 := prB_ok q5 ⟨defD 55 rfl⟩,
    ln := by
      obtain ⟨h1, h2⟩ := He.ba (fact 90 (f := .meth "Plan" "__len__") rfl)
      exact ⟨_, He.eqO_ok h1, (He.ba h2).1, ⟨defD 49 rfl⟩⟩,
    al := by rw [glo 77 (x := "does_run_running") rfl, glo 53 (x := "does_run") rfl, of_decide_eq_true ce0],
    d_is_number := (defD 1 rfl).elim fun fd h => ⟨_, fd, h, glo 32 rfl⟩,
    d_is_word := (defD 2 rfl).elim fun fd h => ⟨_, fd, h, glo 33 rfl⟩,
    d_are_rates := (defD 3 rfl).elim fun fd h => ⟨_, fd, h, glo 34 rfl⟩,
    d_line_up := (defD 4 rfl).elim fun fd h => ⟨_, fd, h, glo 35 rfl⟩,
    d_is_point := (defD 5 rfl).elim fun fd h => ⟨_, fd, h, glo 36 rfl⟩,
    d_are_points := (defD 6 rfl).elim fun fd h => ⟨_, fd, h, glo 37 rfl⟩,
    d_all_on := (defD 7 rfl).elim fun fd h => ⟨_, fd, h, glo 38 rfl⟩,
    d_has_power := (defD 8 rfl).elim fun fd h => ⟨_, fd, h, glo 39 rfl⟩,
    d_does_follow := (defD 9 rfl).elim fun fd h => ⟨_, fd, h, glo 40 rfl⟩,
    d_is_wiring := (defD 10 rfl).elim fun fd h => ⟨_, fd, h, glo 41 rfl⟩,
    d_check_wiring := (defD 11 rfl).elim fun fd h => ⟨_, fd, h, glo 42 rfl⟩,
    d_check_breaker := (defD 12 rfl).elim fun fd h => ⟨_, fd, h, glo 43 rfl⟩,
    d_check_count := (defD 13 rfl).elim fun fd h => ⟨_, fd, h, glo 44 rfl⟩,
    d_is_timer := (defD 14 rfl).elim fun fd h => ⟨_, fd, h, glo 45 rfl⟩,
    d_currents_in := (defD 15 rfl).elim fun fd h => ⟨_, fd, h, glo 46 rfl⟩,
    d_are_above := (defD 16 rfl).elim fun fd h => ⟨_, fd, h, glo 47 rfl⟩,
    d_wrong_load := (defD 17 rfl).elim fun fd h => ⟨_, fd, h, glo 48 rfl⟩,
    d_check_loads := (defD 18 rfl).elim fun fd h => ⟨_, fd, h, glo 49 rfl⟩,
    d_check_timed := (defD 19 rfl).elim fun fd h => ⟨_, fd, h, glo 50 rfl⟩,
    d_names_on := (defD 20 rfl).elim fun fd h => ⟨_, fd, h, glo 51 rfl⟩,
    d_trips_in := (defD 21 rfl).elim fun fd h => ⟨_, fd, h, glo 52 rfl⟩,
    d_does_run := (defD 22 rfl).elim fun fd h => ⟨_, fd, h, glo 53 rfl⟩,
    d_loads_at := (defD 23 rfl).elim fun fd h => ⟨_, fd, h, glo 54 rfl⟩,
    d_trips_of := (defD 24 rfl).elim fun fd h => ⟨_, fd, h, glo 55 rfl⟩,
    d_day := (defD 25 rfl).elim fun fd h => ⟨_, fd, h, glo 56 rfl⟩,
    d_length_of := (defD 26 rfl).elim fun fd h => ⟨_, fd, h, glo 57 rfl⟩,
    d_day_rows := (defD 27 rfl).elim fun fd h => ⟨_, fd, h, glo 58 rfl⟩,
    d_trips_until := (defD 28 rfl).elim fun fd h => ⟨_, fd, h, glo 59 rfl⟩,
    d_first_day := (defD 29 rfl).elim fun fd h => ⟨_, fd, h, glo 60 rfl⟩,
    d__law_plan := (defD 30 rfl).elim fun fd h => ⟨_, fd, h, glo 61 rfl⟩,
    d_all_shifts := (defD 31 rfl).elim fun fd h => ⟨_, fd, h, glo 62 rfl⟩,
    d_shifted := (defD 32 rfl).elim fun fd h => ⟨_, fd, h, glo 63 rfl⟩,
    d_fewest_shifts := (defD 33 rfl).elim fun fd h => ⟨_, fd, h, glo 64 rfl⟩,
    d__law_taken := (defD 34 rfl).elim fun fd h => ⟨_, fd, h, glo 65 rfl⟩,
    d__law_pick := (defD 35 rfl).elim fun fd h => ⟨_, fd, h, glo 66 rfl⟩,
    d__law_mixed := (defD 36 rfl).elim fun fd h => ⟨_, fd, h, glo 67 rfl⟩,
    d__law_loads := (defD 37 rfl).elim fun fd h => ⟨_, fd, h, glo 68 rfl⟩,
    d__law_has := (defD 38 rfl).elim fun fd h => ⟨_, fd, h, glo 69 rfl⟩,
    d__law_lit := (defD 39 rfl).elim fun fd h => ⟨_, fd, h, glo 70 rfl⟩,
    d__law_under := (defD 40 rfl).elim fun fd h => ⟨_, fd, h, glo 71 rfl⟩,
    d__law_flows := (defD 41 rfl).elim fun fd h => ⟨_, fd, h, glo 72 rfl⟩,
    d__law_tripped := (defD 42 rfl).elim fun fd h => ⟨_, fd, h, glo 73 rfl⟩,
    d__law_wirings := (defD 43 rfl).elim fun fd h => ⟨_, fd, h, glo 74 rfl⟩,
    d__law_day := (defD 44 rfl).elim fun fd h => ⟨_, fd, h, glo 75 rfl⟩,
    d__law_scheme := (defD 45 rfl).elim fun fd h => ⟨_, fd, h, glo 76 rfl⟩ }, ?_⟩
  exact (defD 0 rfl).elim fun fd h => ⟨fd, h, glo 31 rfl⟩
end Bf
open PySem PySem.W PySem.Calls PyProof.Rows
theorem PySem.Challenge.cw_blindfuses_k72_whole_days_hour_by_hour_holds : PySem.Challenge.rw_blindfuses_k72_whole_days_hour_by_hour.Holds := by
  w_on; o_law
  refine HandSHeadRun.head_any (r := OpenLaw.row PySem.Challenge.rw_blindfuses_k72_whole_days_hour_by_hour) (q := view (OpenLaw.row PySem.Challenge.rw_blindfuses_k72_whole_days_hour_by_hour).prog [76]) (H := BfT.hk) (ob := BfT.ob) (M := 12000) (loose := BfT.names) (d := HandSHeadRun.topDef (OpenLaw.row PySem.Challenge.rw_blindfuses_k72_whole_days_hour_by_hour).prog 76) (kwd := []) BfT.ob_eq
    (by kernel_rfl) (fun s => by kernel_rfl) BfT.run (by kernel_rfl) (by kernel_rfl) (by kernel_rfl) (by rfl) (by first | assumption | decide +kernel) (by decide +kernel) ⟨rfl, rfl, rfl, rfl, rfl, by decide +kernel⟩ ?hw ?hc
  case hw => w_witness2
  case hc =>
    refine L2.walk_ofE (l := PySem.Challenge.rw_blindfuses_k72_whole_days_hour_by_hour) (n := 63) (k := 11) (x := "_law_script") (CX := L2.CX0) rfl (by decide) (by kernel_rfl) ⟨rfl, by decide, by decide⟩ ?F (fun _ _ _ _ z => z)
    intro w mg fa h Y G hmg0
    obtain ⟨K, KX, c⟩ := Y
    have hmg : mg ("law" : PySem.Str) = some (.ref fa) := by
      have e : (HandSHeadRun.topDef (OpenLaw.row PySem.Challenge.rw_blindfuses_k72_whole_days_hour_by_hour).prog 76).name = ("law" : PySem.Str) := by kernel_rfl
      rw [← e]
      exact hmg0
    obtain ⟨t, fd, FF, hg⟩ := Bf.facts KX G c
    cases hmg.symm.trans hg
    have b := L2.FunD.bindsA (ps := ["_law_script"]) FF fun _ _ _ _ _ _ us hl => match us, hl with | [_], _ => rfl
    exact ⟨K, fd, Bf.sp_law K, KX, fun s v => b s [v] rfl, fun H a ns hl _ hS => ⟨a, ns, rfl, L2.Dp.lst hS (Bf.ints_dpA ns), fun _ => rfl⟩, fun base _ _ => Bf.law_fn FF t.T (Bf.law_words t)⟩
