import PyProof.Rows.All
import Wide.All
import OpenK.AllK
import Wide.FinOn
import HandS.ForMost
import HandS.ForExc
import HandS.Evl
import HandS.IsInst
import HandS.SortRule
import HandS.SortInts
import HandS.Deep
import HandS.Style
import HandS.Flow
import HandS.TupAny
import HandS.SetFor
import HandS.Strs
import HandS.Text
import HandS.TupSets
import HandS.ExcIs
import KE.DataFind
import KE.KeyNested
import KE.KDictDisplayH
import KE.SortData
import HandS.FStr
import HandS.Lambda
import HandS.EndTab
import KE.SortKeyHeap
import KE.KNestM
import KE.GoesComp
import KE.GoesRaise
import HandS.Codes
import PySem.Challenge.RW_rainrows_k13_whole_texts
set_option Elab.async false
set_option linter.all false
set_option maxRecDepth 100000
set_option maxHeartbeats 4000000
namespace Dl
open PySem L2
/-! ### data at values -/
mutual
inductive Dv (H : Hp) : V → PyData → Prop
  | non : Dv H .non .none
  | bl (b : Bool) : Dv H (.bl b) (.bool b)
  | int (i : Int) : Dv H (.int i) (.int i)
  | str (x : Str) : Dv H (.str x) (.str x)
  | lst {a : Addr} {xs : List V} {ds : List PyData} : H a = some (.lst xs) → Dvs H xs ds → Dv H (.ref a) (.list ds)
  | tup {a : Addr} {xs : List V} {ds : List PyData} : H a = some (.tup xs) → Dvs H xs ds → Dv H (.ref a) (.tuple ds)
inductive Dvs (H : Hp) : List V → List PyData → Prop
  | nil : Dvs H [] []
  | cons {v : V} {vs : List V} {d : PyData} {ds : List PyData} : Dv H v d → Dvs H vs ds → Dvs H (v :: vs) (d :: ds)
end
mutual
theorem dv_mono {H H' : Hp} (e : Same H H') : ∀ (d : PyData) (v : V), Dv H v d → Dv H' v d
  | .none, _, h => by cases h; exact .non
  | .bool b, _, h => by cases h; exact .bl b
  | .int i, _, h => by cases h; exact .int i
  | .str x, _, h => by cases h; exact .str x
  | .list ds, _, h => by
    cases h with
    | lst h1 h2 => exact .lst (e _ _ h1) (dvs_mono e ds _ h2)
  | .tuple ds, _, h => by
    cases h with
    | tup h1 h2 => exact .tup (e _ _ h1) (dvs_mono e ds _ h2)
  | .dict _, _, h => by cases h
theorem dvs_mono {H H' : Hp} (e : Same H H') : ∀ (ds : List PyData) (vs : List V), Dvs H vs ds → Dvs H' vs ds
  | [], _, h => by cases h; exact .nil
  | d :: ds, _, h => by
    cases h with
    | cons h1 h2 => exact .cons (dv_mono e d _ h1) (dvs_mono e ds _ h2)
end
theorem Dv.up {H H' : Hp} {v : V} {d : PyData} (h : Dv H v d) (e : Same H H') : Dv H' v d := dv_mono e d v h
theorem Dvs.up {H H' : Hp} {v : List V} {d : List PyData} (h : Dvs H v d) (e : Same H H') : Dvs H' v d := dvs_mono e d v h
mutual
theorem dv_dp {K : PySem.W.Frag} {H : Hp} : ∀ (d : PyData) (v : V), Dv H v d → Dp K H v d
  | .none, _, h => by cases h; exact .non
  | .bool b, _, h => by cases h; exact .bl b
  | .int i, _, h => by cases h; exact .int i
  | .str x, _, h => by cases h; exact .str x
  | .list ds, _, h => by
    cases h with
    | lst h1 h2 => exact .lst (SqL.of h1) (dvs_dp ds _ h2)
  | .tuple ds, _, h => by
    cases h with
    | tup h1 h2 => exact .tup (SqT.of h1) (dvs_dp ds _ h2)
  | .dict _, _, h => by cases h
theorem dvs_dp {K : PySem.W.Frag} {H : Hp} : ∀ (ds : List PyData) (vs : List V), Dvs H vs ds → DpAll K H vs ds
  | [], _, h => by cases h; exact .nil
  | d :: ds, _, h => by
    cases h with
    | cons h1 h2 => exact .cons (dv_dp d _ h1) (dvs_dp ds _ h2)
end
theorem Dv.dp {K : PySem.W.Frag} {H : Hp} {v : V} {d : PyData} (h : Dv H v d) : Dp K H v d := dv_dp d v h
theorem Dvs.len : ∀ {H : Hp} {vs : List V} {ds : List PyData}, Dvs H vs ds → vs.length = ds.length
  | _, _, _, .nil => rfl
  | _, _, _, .cons _ t => by rw [List.length_cons, List.length_cons, t.len]
theorem Dvs.get : ∀ {H : Hp} {vs : List V} {ds : List PyData} {i : Nat} {d : PyData}, Dvs H vs ds → ds[i]? = some d → ∃ v, vs[i]? = some v ∧ Dv H v d
  | _, _, _, _, _, .nil, e => by simp at e
  | _, _, _, 0, _, .cons r _, e => by simp at e; subst e; exact ⟨_, rfl, r⟩
  | _, _, _, i + 1, d, .cons _ t, e => by
    obtain ⟨u, h1, h2⟩ := Dvs.get (i := i) (d := d) t (by simpa using e)
    exact ⟨u, by simpa using h1, h2⟩
theorem Dvs.gett {H : Hp} {vs : List V} {ds : List PyData} {i : Nat} {v : V} (h : Dvs H vs ds) (e : vs[i]? = some v) : ∃ d, ds[i]? = some d ∧ Dv H v d := by
  have hi : i < ds.length := by rw [← h.len]; exact (List.getElem?_eq_some_iff.mp e).1
  obtain ⟨u, h1, h2⟩ := h.get (List.getElem?_eq_getElem hi)
  rw [e] at h1; cases h1
  exact ⟨_, List.getElem?_eq_getElem hi, h2⟩
theorem Dvs.app : ∀ {H : Hp} {xs ys : List V} {ds es : List PyData}, Dvs H xs ds → Dvs H ys es → Dvs H (xs ++ ys) (ds ++ es)
  | _, _, _, _, _, .nil, s => s
  | _, _, _, _, _, .cons r t, s => .cons r (Dvs.app t s)
theorem Dvs.take : ∀ {H : Hp} {xs : List V} {ds : List PyData} (n : Nat), Dvs H xs ds → Dvs H (xs.take n) (ds.take n)
  | _, _, _, 0, _ => .nil
  | _, _, _, _ + 1, .nil => .nil
  | _, _, _, n + 1, .cons r t => .cons r (Dvs.take n t)
theorem Dvs.drop : ∀ {H : Hp} {xs : List V} {ds : List PyData} (n : Nat), Dvs H xs ds → Dvs H (xs.drop n) (ds.drop n)
  | _, _, _, 0, r => r
  | _, _, _, _ + 1, .nil => .nil
  | _, _, _, n + 1, .cons _ t => Dvs.drop n t
theorem Dvs.rev {H : Hp} {xs : List V} {ds : List PyData} (h : Dvs H xs ds) : Dvs H xs.reverse ds.reverse := by
  induction xs generalizing ds with
  | nil => cases h; exact .nil
  | cons x r ih =>
    cases h with
    | cons h1 h2 =>
      rw [List.reverse_cons, List.reverse_cons]
      exact (ih h2).app (.cons h1 .nil)
theorem Dvs.ints {H : Hp} : ∀ (ns : List Int) (xs : List V), Dvs H xs (ns.map PyData.int) → xs = ns.map V.int
  | [], _, h => by cases h; rfl
  | n :: ns, _, h => by
    cases h with
    | cons h1 h2 =>
      cases h1
      rw [Dvs.ints ns _ h2]; rfl
theorem Dvs.bools {H : Hp} : ∀ (ns : List Bool) (xs : List V), Dvs H xs (ns.map PyData.bool) → xs = ns.map V.bl
  | [], _, h => by cases h; rfl
  | n :: ns, _, h => by
    cases h with
    | cons h1 h2 =>
      cases h1
      rw [Dvs.bools ns _ h2]; rfl
theorem dvs_ints {H : Hp} : ∀ ns : List Int, Dvs H (ns.map V.int) (ns.map PyData.int)
  | [] => .nil
  | n :: ns => .cons (.int n) (dvs_ints ns)

/-! ### growing heaps -/
structure Gr (G H G' H' : Hp) : Prop where
  g : Same G G'
  h : Same H H'
  e : Same G' H'
  f : ∀ a, G a = none → H a ≠ none → G' a = none
theorem Gr.refl {G H : Hp} (e : Same G H) : Gr G H G H := ⟨.refl _, .refl _, e, fun _ z _ => z⟩
theorem same_ne {H H' : Hp} (e : Same H H') {a : Addr} (h : H a ≠ none) : H' a ≠ none := by
  cases q : H a with
  | none => exact absurd q h
  | some o => rw [e a o q]; exact Option.some_ne_none _
theorem Gr.trans {G H G1 H1 G2 H2 : Hp} (x : Gr G H G1 H1) (y : Gr G1 H1 G2 H2) : Gr G H G2 H2 :=
  ⟨x.g.trans y.g, x.h.trans y.h, y.e, fun a p q => y.f a (x.f a p q) (same_ne x.h q)⟩
theorem same_new {H : Hp} {p : Addr} {o : HO} (h : H p = none) : Same H (upd H p o) := fun b x e => by
  rw [upd_ne (ne_of_none e h)]
  exact e
theorem same_new2 {H H' : Hp} {p : Addr} {o : HO} (e : Same H H') (h : H p = none) : Same H (upd H' p o) := fun b x q => by
  rw [upd_ne (ne_of_none q h)]
  exact e _ _ q
theorem same_both {H H' : Hp} {p : Addr} {o : HO} (e : Same H H') : Same (upd H p o) (upd H' p o) := fun b x q => by
  by_cases hb : b = p
  · subst hb; rw [upd_same] at q ⊢; exact q
  · rw [upd_ne hb] at q ⊢; exact e _ _ q
theorem same_in {H H' : Hp} {p : Addr} {o : HO} (e : Same H H') (h : H' p = some o) : Same (upd H p o) H' := fun b x q => by
  by_cases hb : b = p
  · subst hb; rw [upd_same] at q; cases q; exact h
  · rw [upd_ne hb] at q; exact e _ _ q
theorem ne_tr {H : Hp} {a p : Addr} (hp : H p = none) (h : H a ≠ none) : a ≠ p := fun z => h (by rw [z]; exact hp)
theorem Gr.new {G H : Hp} {p : Addr} {o : HO} (e : Same G H) (hp : H p = none) : Gr G H (upd G p o) (upd H p o) :=
  ⟨same_new (e.free hp), same_new hp, same_both e, fun a q r => by rw [upd_ne (ne_tr hp r)]; exact q⟩
/-- a new object that stays out of G -/
theorem Gr.hid {G H : Hp} {p : Addr} {o : HO} (e : Same G H) (hp : H p = none) : Gr G H G (upd H p o) :=
  ⟨.refl _, same_new hp, e.trans (same_new hp), fun _ q _ => q⟩
/-- the new object comes into G -/
theorem Gr.take {G H G' H' : Hp} {p : Addr} {o : HO} (x : Gr G H G' H') (hp : H p = none) (hg : G' p = none) (h : H' p = some o) : Gr G H (upd G' p o) H' :=
  ⟨x.g.trans (same_new hg), x.h, same_in x.e h, fun a q r => by rw [upd_ne (ne_tr hp r)]; exact x.f a q r⟩
theorem Gr.flat {G H H' : Hp} (e : Same G H) (x : Same H H') : Gr G H G H' := ⟨.refl _, x, e.trans x, fun _ q _ => q⟩

/-! ### slots -/
structure Res where
  inv : V → Hp → Hp → Prop
  mono : ∀ v G G' h, Same G G' → inv v G h → inv v G' h
inductive Sl where
  | un
  | dat (d : PyData)
  | own (ds : List PyData)
  | prv (R : Res)
abbrev Rho := List Sl
def fz1 : Sl → Sl
  | .own ds => .dat (.list ds)
  | s => s
def fz (ρ : Rho) : Rho := ρ.map fz1
/-- what an expression may read -/
structure Vw (G H : Hp) (σ : St) (ρ : Rho) : Prop where
  e : Same G H
  ln : σ.length = ρ.length
  dt : ∀ (i : Nat) (d : PyData), ρ[i]? = some (Sl.dat d) → ∃ v, σ[i]? = some (some v) ∧ Dv G v d
theorem Vw.grow {G H G' H' : Hp} {σ : St} {ρ : Rho} (w : Vw G H σ ρ) (x : Gr G H G' H') : Vw G' H' σ ρ :=
  ⟨x.e, w.ln, fun i d q => let ⟨v, a, b⟩ := w.dt i d q; ⟨v, a, b.up x.g⟩⟩
def ED (te : TE) (ρ : Rho) (d : PyData) : Prop := ∀ G H σ, Vw G H σ ρ → ∀ Q : VK, (∀ v G' H', Gr G H G' H' → Dv G' v d → Q v H') → te σ H Q
/-- a new list, still out of G -/
def EN (te : TE) (ρ : Rho) (ds : List PyData) : Prop := ∀ G H σ, Vw G H σ ρ → ∀ Q : VK,
  (∀ p xs G' H', Gr G H G' H' → H p = none → G' p = none → H' p = some (.lst xs) → Dvs G' xs ds → Q (.ref p) H') → te σ H Q
def ET (tt : TT) (ρ : Rho) (b : Bool) : Prop := ∀ G H σ, Vw G H σ ρ → ∀ Q : Bool → Hp → Prop, (∀ H', Same H H' → Q b H') → tt σ H Q
def EA (ta : TA) (ρ : Rho) (ds : List PyData) : Prop := ∀ G H σ, Vw G H σ ρ → ∀ Q : List V → Hp → Prop, (∀ vs G' H', Gr G H G' H' → Dvs G' vs ds → Q vs H') → ta σ H Q
def EO (to : TO) (ρ : Rho) (o : Option Int) : Prop := ∀ G H σ, Vw G H σ ρ → ∀ Q : Option Int → Hp → Prop, (∀ H', Same H H' → Q o H') → to σ H Q
/-- operations on values -/
def RD (r : R2) (a b : PyData) (d : PyData) : Prop := ∀ G H v w, Same G H → Dv G v a → Dv G w b → ∀ Q : VK, (∀ z G' H', Gr G H G' H' → Dv G' z d → Q z H') → r v w H Q
def RN (r : R2) (a b : PyData) (ds : List PyData) : Prop := ∀ G H v w, Same G H → Dv G v a → Dv G w b → ∀ Q : VK,
  (∀ p xs G' H', Gr G H G' H' → H p = none → G' p = none → H' p = some (.lst xs) → Dvs G' xs ds → Q (.ref p) H') → r v w H Q
def RC (r : List V → Hp → VK → Prop) (as : List PyData) (d : PyData) : Prop := ∀ G H vs, Same G H → Dvs G vs as → ∀ Q : VK, (∀ z G' H', Gr G H G' H' → Dv G' z d → Q z H') → r vs H Q
def RCN (r : List V → Hp → VK → Prop) (as : List PyData) (ds : List PyData) : Prop := ∀ G H vs, Same G H → Dvs G vs as → ∀ Q : VK,
  (∀ p xs G' H', Gr G H G' H' → H p = none → G' p = none → H' p = some (.lst xs) → Dvs G' xs ds → Q (.ref p) H') → r vs H Q
section
variable {ρ : Rho} {ta tb tc te : TE} {t u : TT} {r r' : R2} {d d1 d2 : PyData} {ds : List PyData}
theorem EN.ed (h : EN te ρ ds) : ED te ρ (.list ds) := fun G H σ w Q q => h G H σ w Q fun p xs G' H' x hp hg hh hd =>
  q _ _ _ (x.take hp hg hh) (.lst upd_same (hd.up (same_new hg)))
theorem RN.rd {a b : PyData} (h : RN r a b ds) : RD r a b (.list ds) := fun G H v w e h1 h2 Q q => h G H v w e h1 h2 Q fun p xs G' H' x hp hg hh hd =>
  q _ _ _ (x.take hp hg hh) (.lst upd_same (hd.up (same_new hg)))
theorem RCN.rc {r : List V → Hp → VK → Prop} {as : List PyData} (h : RCN r as ds) : RC r as (.list ds) := fun G H vs e h1 Q q => h G H vs e h1 Q fun p xs G' H' x hp hg hh hd =>
  q _ _ _ (x.take hp hg hh) (.lst upd_same (hd.up (same_new hg)))
theorem ed_var {i : Nat} (h : ρ[i]? = some (Sl.dat d)) : ED (tVar i) ρ d := fun G H σ w Q q =>
  let ⟨v, a, b⟩ := w.dt i d h
  ⟨v, a, q v G H (.refl w.e) b⟩
theorem ed_int {i : Int} : ED (tC (.int i)) ρ (.int i) := fun G H σ w Q q => q _ G H (.refl w.e) (.int i)
theorem ed_bl {i : Bool} : ED (tC (.bl i)) ρ (.bool i) := fun G H σ w Q q => q _ G H (.refl w.e) (.bl i)
theorem ed_str {i : Str} : ED (tC (.str i)) ρ (.str i) := fun G H σ w Q q => q _ G H (.refl w.e) (.str i)
theorem ed_non : ED (tC .non) ρ .none := fun G H σ w Q q => q _ G H (.refl w.e) .non
theorem ed_op (ha : ED ta ρ d1) (hb : ED tb ρ d2) (hr : RD r d1 d2 d) : ED (tOp r ta tb) ρ d := fun G H σ w Q q =>
  ha G H σ w _ fun v G1 H1 x1 h1 => hb G1 H1 σ (w.grow x1) _ fun u G2 H2 x2 h2 =>
    hr G2 H2 v u x2.e (h1.up x2.g) h2 Q fun z G3 H3 x3 h3 => q z G3 H3 ((x1.trans x2).trans x3) h3
theorem en_op (ha : ED ta ρ d1) (hb : ED tb ρ d2) (hr : RN r d1 d2 ds) : EN (tOp r ta tb) ρ ds := fun G H σ w Q q =>
  ha G H σ w _ fun v G1 H1 x1 h1 => hb G1 H1 σ (w.grow x1) _ fun u G2 H2 x2 h2 =>
    hr G2 H2 v u x2.e (h1.up x2.g) h2 Q fun p xs G3 H3 x3 hp hg hh hd => q p xs G3 H3 ((x1.trans x2).trans x3) ((x1.h.trans x2.h).free hp) hg hh hd
theorem ed_un {f : Int → V} {i : Int} (ha : ED ta ρ (.int i)) (hf : ∀ G, Dv G (f i) d) : ED (tUn (rU f) ta) ρ d := fun G H σ w Q q =>
  ha G H σ w _ fun v G1 H1 x1 h1 => by cases h1; exact ⟨i, rfl, q _ G1 H1 x1 (hf _)⟩
theorem et_test {b : Bool} (h : ED te ρ (.bool b)) : ET (tTest te) ρ b := fun G H σ w Q q => h G H σ w _ fun v G1 H1 x1 h1 => by cases h1; exact ⟨b, rfl, q H1 x1.h⟩
theorem et_B {b : Bool} (h : ED te ρ (.bool b)) : ET (tB te) ρ b := fun G H σ w Q q => h G H σ w _ fun v G1 H1 x1 h1 => by cases h1; exact ⟨b, rfl, q H1 x1.h⟩
theorem Vw.more {G H H' : Hp} {σ : St} (w : Vw G H σ ρ) (x : Same H H') : Vw G H' σ ρ := w.grow (.flat w.e x)
theorem et_and {a b : Bool} (h1 : ET t ρ a) (h2 : a = true → ET u ρ b) : ET (tAnd t u) ρ (a && b) := fun G H σ w Q q => h1 G H σ w _ fun H1 x1 => by
  cases a with
  | true => exact iteT (h2 rfl G H1 σ (w.more x1) Q fun H2 x2 => q H2 (x1.trans x2))
  | false => exact iteF (q H1 x1)
theorem et_or {a b : Bool} (h1 : ET t ρ a) (h2 : a = false → ET u ρ b) : ET (tOr t u) ρ (a || b) := fun G H σ w Q q => h1 G H σ w _ fun H1 x1 => by
  cases a with
  | true => exact iteT (q H1 x1)
  | false => exact iteF (h2 rfl G H1 σ (w.more x1) Q fun H2 x2 => q H2 (x1.trans x2))
theorem et_not {a : Bool} (h1 : ET t ρ a) : ET (tNot t) ρ (!a) := fun G H σ w Q q => h1 G H σ w _ fun H1 x1 => q H1 x1
theorem et_is {a b : Bool} (h : ET t ρ a) (e : a = b) : ET t ρ b := e ▸ h
theorem ed_is (h : ED te ρ d) (e : d = d1) : ED te ρ d1 := e ▸ h
theorem ed_and {a b : Bool} (h1 : ED ta ρ (.bool a)) (h2 : a = true → ED tb ρ (.bool b)) : ED (tAndV ta tb) ρ (.bool (a && b)) := fun G H σ w Q q => h1 G H σ w _ fun v G1 H1 x1 hd => by
  cases hd
  refine ⟨a, rfl, ?_⟩
  cases a with
  | true => exact iteT (h2 rfl G1 H1 σ (w.grow x1) Q fun z G2 H2 x2 h2 => q z G2 H2 (x1.trans x2) h2)
  | false => exact iteF (q _ G1 H1 x1 (.bl false))
theorem ed_or {a b : Bool} (h1 : ED ta ρ (.bool a)) (h2 : a = false → ED tb ρ (.bool b)) : ED (tOrV ta tb) ρ (.bool (a || b)) := fun G H σ w Q q => h1 G H σ w _ fun v G1 H1 x1 hd => by
  cases hd
  refine ⟨a, rfl, ?_⟩
  cases a with
  | true => exact iteT (q _ G1 H1 x1 (.bl true))
  | false => exact iteF (h2 rfl G1 H1 σ (w.grow x1) Q fun z G2 H2 x2 h2 => q z G2 H2 (x1.trans x2) h2)
theorem ed_not {a : Bool} (h1 : ED ta ρ (.bool a)) : ED (tNotV ta) ρ (.bool (!a)) := fun G H σ w Q q => h1 G H σ w _ fun v G1 H1 x1 hd => by
  cases hd
  exact ⟨a, rfl, q _ G1 H1 x1 (.bl _)⟩
theorem ed_if {b : Bool} (h : ET t ρ b) (h1 : b = true → ED ta ρ d1) (h2 : b = false → ED tb ρ d2) : ED (tIf t ta tb) ρ (if b then d1 else d2) := fun G H σ w Q q => h G H σ w _ fun H1 x1 => by
  cases b with
  | true => exact iteT (h1 rfl G H1 σ (w.more x1) Q fun z G2 H2 x2 hd => q z G2 H2 ((Gr.flat w.e x1).trans x2) hd)
  | false => exact iteF (h2 rfl G H1 σ (w.more x1) Q fun z G2 H2 x2 hd => q z G2 H2 ((Gr.flat w.e x1).trans x2) hd)
/-- a < b < c -/
theorem ed_chain {a b : Bool} {d3 : PyData} (ha : ED ta ρ d1) (hb : ED tb ρ d2) (hr : RD r d1 d2 (.bool a)) (hc : ED tc ρ d3) (hr' : RD r' d2 d3 (.bool b)) : ED (tChain r r' ta tb tc) ρ (.bool (a && b)) := fun G H σ w Q q =>
  ha G H σ w _ fun v G1 H1 x1 h1 => hb G1 H1 σ (w.grow x1) _ fun u G2 H2 x2 h2 =>
    hr G2 H2 v u x2.e (h1.up x2.g) h2 _ fun z G3 H3 x3 h3 => by
      cases h3
      refine ⟨a, rfl, ?_⟩
      cases a with
      | true => exact iteT (hc G3 H3 σ (w.grow ((x1.trans x2).trans x3)) _ fun z G4 H4 x4 h4 => hr' G4 H4 u z x4.e ((h2.up x3.g).up x4.g) h4 Q fun y G5 H5 x5 h5 => q y G5 H5 ((((x1.trans x2).trans x3).trans x4).trans x5) h5)
      | false => exact iteF (q _ G3 H3 ((x1.trans x2).trans x3) (.bl false))
theorem ea_nil : EA tNil ρ [] := fun G H σ w Q q => q [] G H (.refl w.e) .nil
theorem ea_cons {tr : TA} (h : ED ta ρ d) (hr : EA tr ρ ds) : EA (tCons ta tr) ρ (d :: ds) := fun G H σ w Q q =>
  h G H σ w _ fun v G1 H1 x1 h1 => hr G1 H1 σ (w.grow x1) _ fun vs G2 H2 x2 h2 => q _ G2 H2 (x1.trans x2) (.cons (h1.up x2.g) h2)
theorem ed_tup {t : TA} (h : EA t ρ ds) (hl : ds.length ≤ 16777216) : ED (tTup t) ρ (.tuple ds) := fun G H σ w Q q =>
  h G H σ w _ fun vs G1 H1 x1 h1 => ⟨by rw [h1.len, sizeLine_eq]; exact hl, fun p hp => q _ _ _ (x1.trans (.new x1.e hp)) (.tup upd_same (h1.up (same_new (x1.e.free hp))))⟩
theorem en_lst {t : TA} (h : EA t ρ ds) (hl : ds.length ≤ 16777216) : EN (tLst t) ρ ds := fun G H σ w Q q =>
  h G H σ w _ fun vs G1 H1 x1 h1 => ⟨by rw [h1.len, sizeLine_eq]; exact hl, fun p hp => q p vs _ _ (x1.trans (.hid x1.e hp)) (x1.h.free hp) (x1.e.free hp) upd_same h1⟩
theorem eo_none : EO tNoPart ρ none := fun G H σ w Q q => q H (.refl _)
theorem eo_some {i : Int} (h : ED te ρ (.int i)) : EO (tPart te) ρ (some i) := fun G H σ w Q q => h G H σ w _ fun v G1 H1 x1 h1 => by cases h1; exact ⟨i, rfl, q H1 x1.h⟩
theorem ed_cb {r : List V → Hp → VK → Prop} {t : TA} {as : List PyData} (h : EA t ρ as) (hr : RC r as d) : ED (tCB r t) ρ d := fun G H σ w Q q =>
  h G H σ w _ fun vs G1 H1 x1 h1 => hr G1 H1 vs x1.e h1 Q fun z G2 H2 x2 h2 => q z G2 H2 (x1.trans x2) h2
theorem en_cb {r : List V → Hp → VK → Prop} {t : TA} {as : List PyData} (h : EA t ρ as) (hr : RCN r as ds) : EN (tCB r t) ρ ds := fun G H σ w Q q =>
  h G H σ w _ fun vs G1 H1 x1 h1 => hr G1 H1 vs x1.e h1 Q fun p xs G2 H2 x2 hp hg hh hd => q p xs G2 H2 (x1.trans x2) (x1.h.free hp) hg hh hd
end
end Dl

namespace Dl
open PySem L2
/-! ### what is walked -/
/-- J yields the data ds while G stands -/
structure Wk (J : It) (G : Hp) (ds : List PyData) : Prop where
  go : ∀ (i : Nat) H, Same G H → i < ds.length → J.go i H
  yl : ∀ (i : Nat) d H x H', Same G H → ds[i]? = some d → J.yld i H x H' → ∀ G1, Same G G1 → Same G1 H → ∃ G2, Gr G1 H G2 H' ∧ Dv G2 x d
  st : ∀ H, Same G H → J.stop ds.length H
def EI (wi : TI) (ρ : Rho) (ds : List PyData) : Prop := ∀ G H σ, Vw G H σ ρ → ∀ R : It → Hp → Prop, (∀ J G' H', Gr G H G' H' → Wk J G' ds → R J H') → wi σ H R
theorem Wk.up {J : It} {G G' : Hp} {ds : List PyData} (w : Wk J G ds) (e : Same G G') : Wk J G' ds :=
  ⟨fun i H s => w.go i H (e.trans s), fun i d H x H' s q y G1 s1 s2 => w.yl i d H x H' (e.trans s) q y G1 (e.trans s1) s2, fun H s => w.st H (e.trans s)⟩
section
variable {K : PySem.W.Frag} {ρ : Rho} {tl te : TE} {ds : List PyData}
theorem wk_list {G : Hp} {a : Addr} {xs : List V} (h : G a = some (.lst xs)) (hd : Dvs G xs ds) : Wk (Itl K a) G ds where
  go := fun i H s hi => by
    have hx : i < xs.length := by rw [hd.len]; exact hi
    exact ⟨xs, xs[i], SqL.of (s _ _ h), List.getElem?_eq_getElem hx⟩
  yl := fun i d H x H' s q y G1 s1 s2 => by
    obtain ⟨e, y⟩ := y
    subst e
    obtain ⟨v, hv, hdv⟩ := hd.get q
    have := y xs (SqL.of (s _ _ h))
    rw [hv] at this; cases this
    exact ⟨G1, .refl s2, hdv.up s1⟩
  st := fun H s => ⟨xs, SqL.of (s _ _ h), by rw [hd.len]; exact Nat.le_refl _⟩
theorem wk_tup {G : Hp} {a : Addr} {xs : List V} (h : G a = some (.tup xs)) (hd : Dvs G xs ds) : Wk (Itt K a) G ds where
  go := fun i H s hi => by
    have hx : i < xs.length := by rw [hd.len]; exact hi
    exact ⟨xs, xs[i], SqT.of (s _ _ h), List.getElem?_eq_getElem hx⟩
  yl := fun i d H x H' s q y G1 s1 s2 => by
    obtain ⟨e, y⟩ := y
    subst e
    obtain ⟨v, hv, hdv⟩ := hd.get q
    have := y xs (SqT.of (s _ _ h))
    rw [hv] at this; cases this
    exact ⟨G1, .refl s2, hdv.up s1⟩
  st := fun H s => ⟨xs, SqT.of (s _ _ h), by rw [hd.len]; exact Nat.le_refl _⟩
/-- lo, lo + 1, .. -/
def rg (lo : Int) (n : Nat) : List Int := (List.range n).map fun (i : Nat) => lo + (i : Int)
theorem rg_get {lo : Int} {n i : Nat} (h : i < n) : (rg lo n)[i]? = some (lo + (i : Int)) := by
  unfold rg
  rw [List.getElem?_map, List.getElem?_range h]; rfl
theorem rg_len (lo : Int) (n : Nat) : (rg lo n).length = n := by unfold rg; simp
theorem wk_rng {G : Hp} {lo : Int} {n : Nat} : Wk (Itr lo n) G ((rg lo n).map PyData.int) where
  go := fun i H s hi => by
    rw [List.length_map, rg_len] at hi
    exact hi
  yl := fun i d H x H' s q y G1 s1 s2 => by
    obtain ⟨e, y⟩ := y
    subst e y
    have hi : i < n := by
      have := (List.getElem?_eq_some_iff.mp q).1
      rw [List.length_map, rg_len] at this; exact this
    rw [List.getElem?_map, rg_get hi] at q
    cases q
    exact ⟨G1, .refl s2, .int _⟩
  st := fun H s => by
    rw [List.length_map, rg_len]
    exact Nat.le_refl _
theorem ei_list (h : ED tl ρ (.list ds)) : EI (iList K tl) ρ ds := fun G H σ w R r => h G H σ w _ fun v G1 H1 x1 hd => by
  cases hd with
  | lst h1 h2 => exact ⟨_, rfl, ⟨_, SqL.of (x1.e _ _ h1)⟩, r _ G1 H1 x1 (wk_list h1 h2)⟩
theorem ei_tup (h : ED tl ρ (.tuple ds)) : EI (iTup K tl) ρ ds := fun G H σ w R r => h G H σ w _ fun v G1 H1 x1 hd => by
  cases hd with
  | tup h1 h2 => exact ⟨_, rfl, ⟨_, SqT.of (x1.e _ _ h1)⟩, r _ G1 H1 x1 (wk_tup h1 h2)⟩
theorem ei_rng1 {ta : TA} {n : Int} (h : EA ta ρ [.int n]) (h1 : -(2 ^ 62) ≤ n) (h2 : n < 2 ^ 62) : EI (iRng1 ta) ρ ((rg 0 n.toNat).map PyData.int) := fun G H σ w R r => h G H σ w _ fun v G1 H1 x1 hd => by
  cases hd with
  | cons a b => cases a; cases b; exact ⟨n, rfl, h1, h2, r _ G1 H1 x1 wk_rng⟩
theorem ei_rng2 {ta : TA} {lo n : Int} (h : EA ta ρ [.int lo, .int n]) (h0 : -(2 ^ 62) ≤ lo ∧ lo < 2 ^ 62) (h1 : -(2 ^ 62) ≤ n) (h2 : n < 2 ^ 62) : EI (iRng2 ta) ρ ((rg lo (n - lo).toNat).map PyData.int) := fun G H σ w R r => h G H σ w _ fun v G1 H1 x1 hd => by
  cases hd with
  | cons a b =>
    cases b with
    | cons b c => cases a; cases b; cases c; exact ⟨lo, n, rfl, ⟨h0.1, h0.2, h1, h2⟩, r _ G1 H1 x1 wk_rng⟩
/-! ### targets, as views -/
theorem Vw.set {G H : Hp} {σ : St} {i : Nat} {v : V} {d : PyData} (w : Vw G H σ ρ) (h : Dv G v d) : Vw G H (σ.set i (some v)) (ρ.set i (.dat d)) := by
  refine ⟨w.e, by rw [List.length_set, List.length_set]; exact w.ln, fun j d' q => ?_⟩
  by_cases hj : i = j
  · subst hj
    by_cases hl : i < ρ.length
    · rw [List.getElem?_set_self hl] at q
      cases q
      exact ⟨v, List.getElem?_set_self (by rw [w.ln]; exact hl), h⟩
    · rw [List.getElem?_eq_none (by rw [List.length_set]; omega)] at q
      cases q
  · rw [List.getElem?_set_ne hj] at q
    obtain ⟨u, a, b⟩ := w.dt j d' q
    exact ⟨u, by rw [List.getElem?_set_ne hj]; exact a, b⟩
theorem Vw.cut {G H : Hp} {σ : St} {i : Nat} (w : Vw G H σ ρ) : Vw G H (σ.set i none) (ρ.set i .un) := by
  refine ⟨w.e, by rw [List.length_set, List.length_set]; exact w.ln, fun j d' q => ?_⟩
  by_cases hj : i = j
  · subst hj
    by_cases hl : i < ρ.length
    · rw [List.getElem?_set_self hl] at q
      cases q
    · rw [List.getElem?_eq_none (by rw [List.length_set]; omega)] at q
      cases q
  · rw [List.getElem?_set_ne hj] at q
    obtain ⟨u, a, b⟩ := w.dt j d' q
    exact ⟨u, by rw [List.getElem?_set_ne hj]; exact a, b⟩
def wipeR (ρ : Rho) : List Nat → Rho
  | [] => ρ
  | v :: vs => (wipeR ρ vs).set v .un
theorem Vw.wipe {G H : Hp} {σ : St} (w : Vw G H σ ρ) : ∀ vs : List Nat, Vw G H (wipe σ vs) (wipeR ρ vs)
  | [] => w
  | v :: vs => (Vw.wipe w vs).cut
/-- a target d stored: the new slots -/
def TV (g : TG) (d : PyData) (ρ ρ' : Rho) (ks : List Nat) : Prop := ∀ G H σ v Q, Vw G H σ ρ → Dv G v d → (∀ us : List V, us.length = ks.length → ∀ σ', σ' = (ks.zip us).foldl (fun s p => s.set p.1 (some p.2)) σ → Vw G H σ' ρ' → Q σ' H) → g v σ H Q
theorem tv_name {i : Nat} {d : PyData} : TV (gName i) d ρ (ρ.set i (.dat d)) [i] := fun G H σ v Q w h q => q [v] rfl _ rfl (w.set h)
theorem tv_pair {i j : Nat} {a b : PyData} : TV (gTup K 2 (gCons (gName i) (gCons (gName j) gNil))) (.tuple [a, b]) ρ ((ρ.set i (.dat a)).set j (.dat b)) [i, j] := fun G H σ v Q w h q => by
  cases h with
  | tup h1 h2 =>
    cases h2 with
    | cons h2 h3 =>
      cases h3 with
      | cons h3 h4 =>
        cases h4
        exact ⟨_, _, rfl, SqT.of (w.e _ _ h1), rfl, _, _, rfl, _, _, rfl, rfl, q [_, _] rfl _ rfl ((w.set h2).set h3)⟩
/-! ### comprehensions -/
theorem wipe_sets (σ : St) : ∀ (ks : List Nat) (us : List V) (vs : List Nat), (∀ k ∈ ks, k ∈ vs) → wipe ((ks.zip us).foldl (fun s p => s.set p.1 (some p.2)) (wipe σ vs)) vs = wipe σ vs := by
  have get : ∀ (σ : St) (vs : List Nat) (j : Nat), (wipe σ vs)[j]? = if j ∈ vs then (if j < σ.length then some none else none) else σ[j]? := by
    intro σ vs j
    induction vs with
    | nil => simp [wipe]
    | cons v vs ih =>
      unfold wipe
      by_cases hj : v = j
      · subst hj
        by_cases hl : v < σ.length
        · rw [List.getElem?_set_self (by rw [wipe_length]; exact hl)]; simp [hl]
        · rw [List.getElem?_eq_none (by rw [List.length_set, wipe_length]; omega)]; simp [hl]
      · rw [List.getElem?_set_ne hj, ih]
        have : (j ∈ v :: vs) ↔ (j ∈ vs) := by simp [Ne.symm hj]
        simp only [this]
  have key : ∀ (ks : List Nat) (us : List V) (τ : St) (j : Nat), j ∉ ks → ((ks.zip us).foldl (fun s p => s.set p.1 (some p.2)) τ)[j]? = τ[j]? := by
    intro ks
    induction ks with
    | nil => intro us τ j _; simp
    | cons k ks ih =>
      intro us τ j hj
      cases us with
      | nil => simp
      | cons u us =>
        show ((ks.zip us).foldl (fun s p => s.set p.1 (some p.2)) (τ.set k (some u)))[j]? = _
        rw [ih us _ j (fun z => hj (List.mem_cons_of_mem _ z)), List.getElem?_set_ne (fun z => hj (by simp [z]))]
  have len : ∀ (ks : List Nat) (us : List V) (τ : St), ((ks.zip us).foldl (fun s p => s.set p.1 (some p.2)) τ).length = τ.length := by
    intro ks
    induction ks with
    | nil => intro us τ; simp
    | cons k ks ih =>
      intro us τ
      cases us with
      | nil => simp
      | cons u us =>
        show ((ks.zip us).foldl (fun s p => s.set p.1 (some p.2)) (τ.set k (some u))).length = _
        rw [ih us, List.length_set]
  intro ks us vs hk
  apply List.ext_getElem?
  intro j
  rw [get, get, len, wipe_length]
  by_cases hj : j ∈ vs
  · rw [if_pos hj, if_pos hj]
  · rw [if_neg hj, if_neg hj, key ks us _ j (fun z => hj (hk j z)), get, if_neg hj]
/-- [te for g in wi if tt]: f tells which item is kept, e what comes of it -/
theorem en_lc {α : Type} {wi : TI} {g : TG} {tt : TT} {te : TE} {vs ks : List Nat} {ds : List α} {en : α → PyData} {f : α → Bool} {e : α → PyData} (hi : EI wi ρ (ds.map en)) (hk : ∀ k ∈ ks, k ∈ vs) (hl : ds.length < sizeLine)
    (ht : ∀ d ∈ ds, ∃ ρ', TV g (en d) (wipeR ρ vs) ρ' ks ∧ ET tt ρ' (f d) ∧ (f d = true → ED te ρ' (e d))) : EN (tLc wi g tt te vs) ρ ((ds.filter f).map e) := fun G H σ w Q q => by
  refine hi G H σ w _ fun J G1 H1 x1 wk => fun D hD => ?_
  have w1 := w.grow x1
  refine ⟨fun i m H2 => m = ds.length - i ∧ i ≤ ds.length ∧ ∃ G2 acc, Gr G1 (upd H1 D (.lst [])) G2 (upd H2 D (.lst [])) ∧ G2 D = none ∧ H2 D = some (.lst acc) ∧ Dvs G2 acc (((ds.take i).filter f).map e),
    ⟨ds.length, by simp, Nat.zero_le _, G1, [], ?_, x1.e.free hD, upd_same, .nil⟩, ?_⟩
  · rw [upd_upd]
    exact .refl (x1.e.trans (same_new hD))
  rintro i m H2 ⟨rfl, hle, G2, acc, x2, gD, hA, dA⟩
  have s2 : Same G2 H2 := fun b o z => by
    have := x2.e b o z
    rw [upd_ne (ne_of_none z gD)] at this
    exact this
  have s12 : Same G1 H2 := x2.g.trans s2
  by_cases hlt : i < ds.length
  · refine .inr ⟨wk.go i H2 s12 (by rw [List.length_map]; exact hlt), fun H3 => i + 1 ≤ ds.length ∧ ∃ G2 acc, Gr G1 (upd H1 D (.lst [])) G2 (upd H3 D (.lst [])) ∧ G2 D = none ∧ H3 D = some (.lst acc) ∧ Dvs G2 acc (((ds.take (i + 1)).filter f).map e),
      fun H3 z => ⟨ds.length - (i + 1), by omega, rfl, z⟩, fun x H3 y => ?_⟩
    have hd : ds[i]? = some ds[i] := List.getElem?_eq_getElem hlt
    obtain ⟨G3, x3, hx⟩ := wk.yl i (en ds[i]) H2 x H3 s12 (by rw [List.getElem?_map, hd]; rfl) y G2 x2.g s2
    have take1 : ds.take (i + 1) = ds.take i ++ [ds[i]] := by rw [List.take_add_one, hd]; rfl
    have gD3 : G3 D = none := x3.f D gD (by rw [hA]; exact Option.some_ne_none _)
    obtain ⟨ρ', tv, et, ed⟩ := ht ds[i] (List.getElem_mem hlt)
    have base : ∀ {G4 H4 : Hp}, Gr G3 H3 G4 H4 → H4 D = some (.lst acc) ∧ G4 D = none ∧ Gr G1 (upd H1 D (.lst [])) G4 (upd H4 D (.lst [])) := fun {G4 H4} x4 => by
      have hA3 := x4.h _ _ (x3.h _ _ hA)
      have gD4 : G4 D = none := x4.f D gD3 (by rw [x3.h _ _ hA]; exact Option.some_ne_none _)
      refine ⟨hA3, gD4, x2.trans ⟨x3.g.trans x4.g, same_both (x3.h.trans x4.h), same_new2 x4.e gD4, fun a p r => ?_⟩⟩
      by_cases ha : a = D
      · rw [ha]; exact gD4
      · rw [upd_ne ha] at r
        exact x4.f a (x3.f a p r) (same_ne x3.h r)
    refine tv G3 H3 (wipe σ vs) x _ ((((w.grow x1).wipe vs)).grow ⟨x2.g.trans x3.g, ?_, x3.e, fun a p r => ?_⟩) hx fun us hus σ' e' w' => ⟨?_, ?_⟩
    · intro b o z
      have zb : b ≠ D := ne_of_none z hD
      have z2 := x2.h b o (by rw [upd_ne zb]; exact z)
      rw [upd_ne zb] at z2
      exact x3.h _ _ z2
    · have zb : a ≠ D := ne_tr hD r
      have z2 := x2.f a p (by rw [upd_ne zb]; exact r)
      refine x3.f a z2 ?_
      have := same_ne x2.h (a := a) (by rw [upd_ne zb]; exact r)
      rw [upd_ne zb] at this
      exact this
    · subst e'
      exact wipe_sets σ ks us vs hk
    · refine et G3 H3 σ' w' _ fun H4 x4 => ?_
      have x34 : Gr G3 H3 G3 H4 := .flat x3.e x4
      cases hf : f ds[i] with
      | true =>
        refine iteT (ed hf G3 H4 σ' (w'.more x4) _ fun z G5 H5 x5 hz => ?_)
        obtain ⟨b1, b2, b3⟩ := base (x34.trans x5)
        have hlen := dA.len
        refine ⟨acc, b1, ?_, hlt, G5, acc ++ [z], ?_, b2, upd_same, ?_⟩
        · rw [hlen, List.length_map]
          refine Nat.lt_of_le_of_lt ?_ hl
          exact Nat.le_trans (List.length_filter_le _ _) (by rw [List.length_take]; omega)
        · rw [upd_upd]; exact b3
        · rw [take1, List.filter_append, List.map_append]
          refine Dvs.app (dA.up (x3.g.trans (x34.g.trans x5.g))) ?_
          rw [List.filter_cons, if_pos hf]
          exact .cons hz .nil
      | false =>
        refine iteF ?_
        obtain ⟨b1, b2, b3⟩ := base x34
        refine ⟨hlt, G3, acc, b3, b2, b1, ?_⟩
        rw [take1, List.filter_append, List.filter_cons, if_neg (by rw [hf]; exact Bool.false_ne_true)]
        simpa using dA.up x3.g
  · have e1 : i = ds.length := by omega
    subst e1
    rw [List.take_length] at dA
    refine .inl ⟨by have := wk.st H2 s12; rw [List.length_map] at this; exact this, ?_⟩
    refine q D acc G2 H2 (x1.trans ⟨x2.g, ?_, s2, fun a p r => ?_⟩) (x1.h.free hD) gD hA dA
    · intro b o z
      have zb : b ≠ D := ne_of_none z hD
      have z2 := x2.h b o (by rw [upd_ne zb]; exact z)
      rw [upd_ne zb] at z2
      exact z2
    · have zb : a ≠ D := ne_tr hD r
      exact x2.f a p (by rw [upd_ne zb]; exact r)
end
end Dl

namespace Dl
open PySem L2
/-! ### states -/
structure Fm (Pv : Addr → Prop) (G0 H0 G H : Hp) : Prop where
  g : Same G0 G
  h : ∀ a o, ¬ Pv a → H0 a = some o → H a = some o
  k : ∀ a, H0 a ≠ none → H a ≠ none
  e : Same G H
  f : ∀ a, G0 a = none → H0 a ≠ none → G a = none
theorem Fm.grow {Pv : Addr → Prop} {G0 H0 G H G' H' : Hp} (m : Fm Pv G0 H0 G H) (x : Gr G H G' H') : Fm Pv G0 H0 G' H' :=
  ⟨m.g.trans x.g, fun a o p q => x.h a o (m.h a o p q), fun a q => same_ne x.h (m.k a q), x.e, fun a p q => x.f a (m.f a p q) (m.k a q)⟩
theorem Fm.gr {G0 H0 G H : Hp} (m : Fm (fun _ => False) G0 H0 G H) : Gr G0 H0 G H := ⟨m.g, fun a o q => m.h a o id q, m.e, m.f⟩
theorem Fm.refl {Pv : Addr → Prop} {G H : Hp} (e : Same G H) : Fm Pv G H G H := ⟨.refl _, fun _ _ _ q => q, fun _ q => q, e, fun _ q _ => q⟩
def one (o : Addr) (x : HO) : Hp := upd (fun _ => none) o x
theorem one_some {o a : Addr} {x y : HO} (h : one o x a = some y) : a = o ∧ y = x := by
  by_cases ha : a = o
  · subst ha; unfold one at h; rw [upd_same] at h; cases h; exact ⟨rfl, rfl⟩
  · unfold one at h; rw [upd_ne ha] at h; cases h
theorem one_ne {o a : Addr} {x : HO} (h : one o x a ≠ none) : a = o := by
  cases q : one o x a with
  | none => exact absurd q h
  | some y => exact (one_some q).1
theorem one_same {o : Addr} {x : HO} : one o x o = some x := upd_same
structure Pri (Pv : Addr → Prop) (H0 G H : Hp) (σ : St) (ρ : Rho) (hs : Nat → Hp) : Prop where
  ow : ∀ (i : Nat) (ds : List PyData), ρ[i]? = some (Sl.own ds) → ∃ o xs, σ[i]? = some (some (.ref o)) ∧ hs i = one o (.lst xs) ∧ Dvs G xs ds ∧ H0 o = none
  pv : ∀ (i : Nat) (R : Res), ρ[i]? = some (Sl.prv R) → ∃ v, σ[i]? = some (some v) ∧ R.inv v G (hs i)
  hi : ∀ (i : Nat) a o, hs i a = some o → H a = some o ∧ G a = none ∧ (Pv a ∨ H0 a = none)
  dj : ∀ (i j : Nat) a, i ≠ j → hs i a ≠ none → hs j a = none
structure Sta (Pv : Addr → Prop) (G0 H0 G H : Hp) (σ : St) (ρ : Rho) : Prop where
  fm : Fm Pv G0 H0 G H
  vw : Vw G H σ ρ
  pr : ∃ hs, Pri Pv H0 G H σ ρ hs
section
variable {Pv : Addr → Prop} {G0 H0 G H G' H' : Hp} {σ : St} {ρ : Rho}
theorem Pri.grow {hs : Nat → Hp} (p : Pri Pv H0 G H σ ρ hs) (x : Gr G H G' H') : Pri Pv H0 G' H' σ ρ hs := by
  refine ⟨fun i ds q => ?_, fun i R q => ?_, fun i a o q => ?_, p.dj⟩
  · obtain ⟨o, xs, a, b, c, d⟩ := p.ow i ds q
    exact ⟨o, xs, a, b, c.up x.g, d⟩
  · obtain ⟨v, a, b⟩ := p.pv i R q
    exact ⟨v, a, R.mono _ _ _ _ x.g b⟩
  · obtain ⟨a1, a2, a3⟩ := p.hi i a o q
    exact ⟨x.h _ _ a1, x.f a a2 (by rw [a1]; exact Option.some_ne_none _), a3⟩
theorem Sta.grow (s : Sta Pv G0 H0 G H σ ρ) (x : Gr G H G' H') : Sta Pv G0 H0 G' H' σ ρ :=
  ⟨s.fm.grow x, s.vw.grow x, let ⟨hs, p⟩ := s.pr; ⟨hs, p.grow x⟩⟩
theorem get_set_dat {ρ : Rho} {i j : Nat} {s t : Sl} (h : (ρ.set i s)[j]? = some t) : (i = j ∧ t = s) ∨ (i ≠ j ∧ ρ[j]? = some t) := by
  by_cases hj : i = j
  · subst hj
    by_cases hl : i < ρ.length
    · rw [List.getElem?_set_self hl] at h; cases h; exact .inl ⟨rfl, rfl⟩
    · rw [List.getElem?_eq_none (by rw [List.length_set]; omega)] at h; cases h
  · rw [List.getElem?_set_ne hj] at h; exact .inr ⟨hj, h⟩
theorem get_set_bnd {ρ : Rho} {i : Nat} {s t : Sl} (h : (ρ.set i s)[i]? = some t) : i < ρ.length := by
  have := (List.getElem?_eq_some_iff.mp h).1
  rw [List.length_set] at this; exact this
theorem Sta.set {i : Nat} {v : V} {d : PyData} (s : Sta Pv G0 H0 G H σ ρ) (h : Dv G v d) : Sta Pv G0 H0 G H (σ.set i (some v)) (ρ.set i (.dat d)) := by
  obtain ⟨fm, vw, hs, p⟩ := s
  refine ⟨fm, vw.set h, fun j => if i = j then fun _ => none else hs j, fun j ds q => ?_, fun j R q => ?_, fun j a o q => ?_, fun j k a hjk q => ?_⟩
  · rcases get_set_dat q with ⟨_, e⟩ | ⟨hj, q⟩
    · cases e
    · obtain ⟨o, xs, a, b, c, d⟩ := p.ow j ds q
      exact ⟨o, xs, by rw [List.getElem?_set_ne hj]; exact a, by show (if i = j then _ else _) = _; rw [if_neg hj]; exact b, c, d⟩
  · rcases get_set_dat q with ⟨_, e⟩ | ⟨hj, q⟩
    · cases e
    · obtain ⟨v, a, b⟩ := p.pv j R q
      exact ⟨v, by rw [List.getElem?_set_ne hj]; exact a, by show R.inv v G (if i = j then _ else _); rw [if_neg hj]; exact b⟩
  · have q : (if i = j then (fun _ => none : Hp) else hs j) a = some o := q
    by_cases hj : i = j
    · rw [if_pos hj] at q; cases q
    · rw [if_neg hj] at q; exact p.hi j a o q
  · have q : (if i = j then (fun _ => none : Hp) else hs j) a ≠ none := q
    show (if i = k then (fun _ => none : Hp) else hs k) a = none
    by_cases hk : i = k
    · rw [if_pos hk]
    · rw [if_neg hk]
      by_cases hj : i = j
      · rw [if_pos hj] at q; exact absurd rfl q
      · rw [if_neg hj] at q; exact p.dj j k a hjk q
theorem Sta.gone {i : Nat} {w : Option V} (s : Sta Pv G0 H0 G H σ ρ) : Sta Pv G0 H0 G H (σ.set i w) (ρ.set i .un) := by
  obtain ⟨fm, vw, hs, p⟩ := s
  refine ⟨fm, ⟨vw.e, by rw [List.length_set, List.length_set]; exact vw.ln, fun j d q => ?_⟩, fun j => if i = j then fun _ => none else hs j, fun j ds q => ?_, fun j R q => ?_, fun j a o q => ?_, fun j k a hjk q => ?_⟩
  · rcases get_set_dat q with ⟨_, e⟩ | ⟨hj, q⟩
    · cases e
    · obtain ⟨v, a, b⟩ := vw.dt j d q
      exact ⟨v, by rw [List.getElem?_set_ne hj]; exact a, b⟩
  · rcases get_set_dat q with ⟨_, e⟩ | ⟨hj, q⟩
    · cases e
    · obtain ⟨o, xs, a, b, c, d⟩ := p.ow j ds q
      exact ⟨o, xs, by rw [List.getElem?_set_ne hj]; exact a, by show (if i = j then _ else _) = _; rw [if_neg hj]; exact b, c, d⟩
  · rcases get_set_dat q with ⟨_, e⟩ | ⟨hj, q⟩
    · cases e
    · obtain ⟨v, a, b⟩ := p.pv j R q
      exact ⟨v, by rw [List.getElem?_set_ne hj]; exact a, by show R.inv v G (if i = j then _ else _); rw [if_neg hj]; exact b⟩
  · have q : (if i = j then (fun _ => none : Hp) else hs j) a = some o := q
    by_cases hj : i = j
    · rw [if_pos hj] at q; cases q
    · rw [if_neg hj] at q; exact p.hi j a o q
  · have q : (if i = j then (fun _ => none : Hp) else hs j) a ≠ none := q
    show (if i = k then (fun _ => none : Hp) else hs k) a = none
    by_cases hk : i = k
    · rw [if_pos hk]
    · rw [if_neg hk]
      by_cases hj : i = j
      · rw [if_pos hj] at q; exact absurd rfl q
      · rw [if_neg hj] at q; exact p.dj j k a hjk q
/-- slot i gets its own part of the heap h (disjoint from all others), by any kind of slot -/
theorem Sta.put {i : Nat} {v : V} {z : Sl} {h : Hp} {hs : Nat → Hp} (fm : Fm Pv G0 H0 G H) (vw : Vw G H σ ρ) (p : Pri Pv H0 G H σ ρ hs)
    (hz : (∀ d, z ≠ .dat d)) (hown : ∀ ds, z = .own ds → ∃ o xs, v = .ref o ∧ h = one o (.lst xs) ∧ Dvs G xs ds ∧ H0 o = none) (hprv : ∀ R, z = .prv R → R.inv v G h)
    (hh : ∀ a o, h a = some o → H a = some o ∧ G a = none ∧ (Pv a ∨ H0 a = none)) (hd : ∀ (j : Nat) a, i ≠ j → h a ≠ none → hs j a = none) : Sta Pv G0 H0 G H (σ.set i (some v)) (ρ.set i z) := by
  refine ⟨fm, ⟨vw.e, by rw [List.length_set, List.length_set]; exact vw.ln, fun j d q => ?_⟩, fun j => if i = j then h else hs j, fun j ds q => ?_, fun j R q => ?_, fun j a o q => ?_, fun j k a hjk q => ?_⟩
  · rcases get_set_dat q with ⟨_, e⟩ | ⟨hj, q⟩
    · exact absurd e.symm (hz d)
    · obtain ⟨v, a, b⟩ := vw.dt j d q
      exact ⟨v, by rw [List.getElem?_set_ne hj]; exact a, b⟩
  · rcases get_set_dat q with ⟨hj, e⟩ | ⟨hj, q⟩
    · subst hj
      have hb := get_set_bnd q
      obtain ⟨o, xs, rfl, b, c, d⟩ := hown ds e.symm
      exact ⟨o, xs, List.getElem?_set_self (by rw [vw.ln]; exact hb), by show (if i = i then h else _) = _; rw [if_pos rfl]; exact b, c, d⟩
    · obtain ⟨o, xs, a, b, c, d⟩ := p.ow j ds q
      exact ⟨o, xs, by rw [List.getElem?_set_ne hj]; exact a, by show (if i = j then _ else _) = _; rw [if_neg hj]; exact b, c, d⟩
  · rcases get_set_dat q with ⟨hj, e⟩ | ⟨hj, q⟩
    · subst hj
      have hb := get_set_bnd q
      exact ⟨v, List.getElem?_set_self (by rw [vw.ln]; exact hb), by show R.inv v G (if i = i then h else _); rw [if_pos rfl]; exact hprv R e.symm⟩
    · obtain ⟨v, a, b⟩ := p.pv j R q
      exact ⟨v, by rw [List.getElem?_set_ne hj]; exact a, by show R.inv v G (if i = j then _ else _); rw [if_neg hj]; exact b⟩
  · have q : (if i = j then h else hs j) a = some o := q
    by_cases hj : i = j
    · rw [if_pos hj] at q; exact hh a o q
    · rw [if_neg hj] at q; exact p.hi j a o q
  · have q : (if i = j then h else hs j) a ≠ none := q
    show (if i = k then h else hs k) a = none
    by_cases hk : i = k
    · rw [if_pos hk]
      have hj : i ≠ j := fun z => hjk (z.symm.trans hk)
      rw [if_neg hj] at q
      cases e : h a with
      | none => rfl
      | some o => exact absurd (hd j a hj (by rw [e]; exact Option.some_ne_none _)) q
    · rw [if_neg hk]
      by_cases hj : i = j
      · rw [if_pos hj] at q; exact hd k a hk q
      · rw [if_neg hj] at q; exact p.dj j k a hjk q
/-- a new list comes into slot i -/
theorem Sta.setOwn {i : Nat} {p : Addr} {xs : List V} {ds : List PyData} (s : Sta Pv G0 H0 G H σ ρ) (x : Gr G H G' H') (hp : H p = none) (hg : G' p = none) (hh : H' p = some (.lst xs)) (hd : Dvs G' xs ds) :
    Sta Pv G0 H0 G' H' (σ.set i (some (.ref p))) (ρ.set i (.own ds)) := by
  have h0 : H0 p = none := by
    cases q : H0 p with
    | none => rfl
    | some o => exact absurd hp (s.fm.k p (by rw [q]; exact Option.some_ne_none _))
  obtain ⟨hs0, p0⟩ := s.pr
  refine Sta.put (h := one p (.lst xs)) (s.fm.grow x) (s.vw.grow x) (p0.grow x) (fun d z => by cases z) (fun ds' e => by cases e; exact ⟨p, xs, rfl, rfl, hd, h0⟩) (fun R z => by cases z) (fun a o q => ?_) (fun j a hj q => ?_)
  · obtain ⟨rfl, rfl⟩ := one_some q
    exact ⟨hh, hg, .inr h0⟩
  · have ea := one_ne q
    subst ea
    cases e : hs0 j a with
    | none => rfl
    | some o =>
      have := (p0.hi j a o e).1
      rw [hp] at this; cases this
/-- what slot i owns is changed -/
theorem Sta.mut {i : Nat} {ds ds' : List PyData} (s : Sta Pv G0 H0 G H σ ρ) (q : ρ[i]? = some (Sl.own ds)) : ∃ o xs, σ[i]? = some (some (.ref o)) ∧ H o = some (.lst xs) ∧ Dvs G xs ds ∧ G o = none ∧ H0 o = none ∧
    ∀ ys, Dvs G ys ds' → Sta Pv G0 H0 G (upd H o (.lst ys)) σ (ρ.set i (.own ds')) := by
  obtain ⟨fm, vw, hs, p⟩ := s
  obtain ⟨o, xs, a, b, c, d⟩ := p.ow i ds q
  have ho : hs i o = some (.lst xs) := by rw [b]; exact one_same
  obtain ⟨h1, h2, h3⟩ := p.hi i o _ ho
  refine ⟨o, xs, a, h1, c, h2, d, fun ys hy => ⟨⟨fm.g, fun b u nb e => ?_, fun b nb => ?_, same_new2 fm.e h2, fm.f⟩, ⟨same_new2 vw.e h2, by rw [List.length_set]; exact vw.ln, fun j d' e => ?_⟩, fun j => if i = j then one o (.lst ys) else hs j, fun j es e => ?_, fun j R e => ?_, fun j b u e => ?_, fun j k b hjk e => ?_⟩⟩
  · rw [upd_ne (ne_of_none e d)]; exact fm.h b u nb e
  · by_cases hb : b = o
    · subst hb; rw [upd_same]; exact Option.some_ne_none _
    · rw [upd_ne hb]; exact fm.k b nb
  · rcases get_set_dat e with ⟨_, z⟩ | ⟨hj, e⟩
    · cases z
    · exact vw.dt j d' e
  · rcases get_set_dat e with ⟨hj, z⟩ | ⟨hj, e⟩
    · subst hj; cases z
      exact ⟨o, ys, a, by show (if i = i then _ else _) = _; rw [if_pos rfl], hy, d⟩
    · obtain ⟨o', xs', a', b', c', d'⟩ := p.ow j es e
      exact ⟨o', xs', a', by show (if i = j then _ else _) = _; rw [if_neg hj]; exact b', c', d'⟩
  · rcases get_set_dat e with ⟨hj, z⟩ | ⟨hj, e⟩
    · cases z
    · obtain ⟨v, a', b'⟩ := p.pv j R e
      exact ⟨v, a', by show R.inv v G (if i = j then _ else _); rw [if_neg hj]; exact b'⟩
  · have e : (if i = j then one o (.lst ys) else hs j) b = some u := e
    by_cases hj : i = j
    · rw [if_pos hj] at e
      obtain ⟨rfl, rfl⟩ := one_some e
      exact ⟨upd_same, h2, .inr d⟩
    · rw [if_neg hj] at e
      have hb : b ≠ o := fun z => by
        have := p.dj i j o hj (by rw [ho]; exact Option.some_ne_none _)
        rw [z, this] at e; cases e
      rw [upd_ne hb]
      exact p.hi j b u e
  · have e : (if i = j then one o (.lst ys) else hs j) b ≠ none := e
    show (if i = k then one o (.lst ys) else hs k) b = none
    by_cases hk : i = k
    · rw [if_pos hk]
      have hj : i ≠ j := fun z => hjk (z.symm.trans hk)
      rw [if_neg hj] at e
      have hb : b ≠ o := fun z => by
        have := p.dj i j o hj (by rw [ho]; exact Option.some_ne_none _)
        rw [z] at e; exact e this
      unfold one; rw [upd_ne hb]
    · rw [if_neg hk]
      by_cases hj : i = j
      · rw [if_pos hj] at e
        have z := one_ne e
        rw [z]
        exact p.dj i k o hk (by rw [ho]; exact Option.some_ne_none _)
      · rw [if_neg hj] at e; exact p.dj j k b hjk e
end
end Dl

namespace Dl
open PySem L2
section
variable {Pv : Addr → Prop} {G0 H0 G H G' H' : Hp} {σ : St} {ρ : Rho}
/-- what slot i owns becomes plain data -/
theorem Sta.frz {i : Nat} {ds : List PyData} (s : Sta Pv G0 H0 G H σ ρ) (q : ρ[i]? = some (Sl.own ds)) : ∃ o xs, σ[i]? = some (some (.ref o)) ∧ H o = some (.lst xs) ∧ G o = none ∧ Dvs G xs ds ∧ H0 o = none ∧
    Sta Pv G0 H0 (upd G o (.lst xs)) H σ (ρ.set i (.dat (.list ds))) := by
  obtain ⟨fm, vw, hs, p⟩ := s
  obtain ⟨o, xs, a, b, c, d⟩ := p.ow i ds q
  have ho : hs i o = some (.lst xs) := by rw [b]; exact one_same
  obtain ⟨h1, h2, h3⟩ := p.hi i o _ ho
  refine ⟨o, xs, a, h1, h2, c, d, ⟨fm.g.trans (same_new h2), fm.h, fm.k, same_in fm.e h1, fun b' e1 e2 => ?_⟩, ⟨same_in vw.e h1, by rw [List.length_set]; exact vw.ln, fun j d' e => ?_⟩, fun j => if i = j then fun _ => none else hs j, fun j es e => ?_, fun j R e => ?_, fun j b' u e => ?_, fun j k b' hjk e => ?_⟩
  · rw [upd_ne (ne_tr d e2)]; exact fm.f b' e1 e2
  · rcases get_set_dat e with ⟨hj, z⟩ | ⟨hj, e⟩
    · subst hj; cases z
      exact ⟨.ref o, a, .lst upd_same (c.up (same_new h2))⟩
    · obtain ⟨v, a', b'⟩ := vw.dt j d' e
      exact ⟨v, a', b'.up (same_new h2)⟩
  · rcases get_set_dat e with ⟨_, z⟩ | ⟨hj, e⟩
    · cases z
    · obtain ⟨o', xs', a', b', c', d'⟩ := p.ow j es e
      exact ⟨o', xs', a', by show (if i = j then _ else _) = _; rw [if_neg hj]; exact b', c'.up (same_new h2), d'⟩
  · rcases get_set_dat e with ⟨_, z⟩ | ⟨hj, e⟩
    · cases z
    · obtain ⟨v, a', b'⟩ := p.pv j R e
      exact ⟨v, a', by show R.inv v _ (if i = j then _ else _); rw [if_neg hj]; exact R.mono _ _ _ _ (same_new h2) b'⟩
  · have e : (if i = j then (fun _ => none : Hp) else hs j) b' = some u := e
    by_cases hj : i = j
    · rw [if_pos hj] at e; cases e
    · rw [if_neg hj] at e
      obtain ⟨z1, z2, z3⟩ := p.hi j b' u e
      have hb : b' ≠ o := fun z => by
        have := p.dj i j o hj (by rw [ho]; exact Option.some_ne_none _)
        rw [z, this] at e; cases e
      exact ⟨z1, by rw [upd_ne hb]; exact z2, z3⟩
  · have e : (if i = j then (fun _ => none : Hp) else hs j) b' ≠ none := e
    show (if i = k then (fun _ => none : Hp) else hs k) b' = none
    by_cases hk : i = k
    · rw [if_pos hk]
    · rw [if_neg hk]
      by_cases hj : i = j
      · rw [if_pos hj] at e; exact absurd rfl e
      · rw [if_neg hj] at e; exact p.dj j k b' hjk e
theorem fz_get {i : Nat} {d : PyData} (q : (fz ρ)[i]? = some (Sl.dat d)) : ρ[i]? = some (Sl.dat d) ∨ ∃ ds, ρ[i]? = some (Sl.own ds) ∧ d = .list ds := by
  unfold fz at q
  rw [List.getElem?_map] at q
  cases e : ρ[i]? with
  | none => rw [e] at q; cases q
  | some z =>
    rw [e] at q
    cases z with
    | un => cases q
    | dat d' => cases q; exact .inl rfl
    | own ds => cases q; exact .inr ⟨ds, rfl, rfl⟩
    | prv R => cases q
theorem Sta.fz (s : Sta Pv G0 H0 G H σ ρ) : Vw H H σ (fz ρ) := by
  obtain ⟨fm, vw, hs, p⟩ := s
  refine ⟨.refl _, by unfold Dl.fz; rw [List.length_map]; exact vw.ln, fun j d q => ?_⟩
  rcases fz_get q with q | ⟨ds, q2, rfl⟩
  · obtain ⟨v, a, b⟩ := vw.dt j d q
    exact ⟨v, a, b.up vw.e⟩
  · obtain ⟨o, xs, a, b, c, d⟩ := p.ow j ds q2
    have ho : hs j o = some (.lst xs) := by rw [b]; exact one_same
    exact ⟨.ref o, a, .lst (p.hi j o _ ho).1 (c.up vw.e)⟩
theorem Sta.more (s : Sta Pv G0 H0 G H σ ρ) (x : Same H H') : Sta Pv G0 H0 G H' σ ρ := s.grow (.flat s.fm.e x)
end
/-! ### statements -/
inductive Out where
  | nxt (ρ : Rho)
  | brk (ρ : Rho)
  | cnt (ρ : Rho)
  | ret (ρ : Rho) (d : PyData)
  | new (ρ : Rho) (ds : List PyData)
  | exc (C : Addr)
/-- what comes behind -/
structure Kn (E : XK) (P : Out → Prop) (Pv : Addr → Prop) (G0 H0 G : Hp) (D : Ends) : Prop where
  nx : ∀ ρ σ G' H', P (.nxt ρ) → Same G G' → Sta Pv G0 H0 G' H' σ ρ → D.nx σ H'
  bk : ∀ ρ σ G' H', P (.brk ρ) → Same G G' → Sta Pv G0 H0 G' H' σ ρ → D.bk σ H'
  ct : ∀ ρ σ G' H', P (.cnt ρ) → Same G G' → Sta Pv G0 H0 G' H' σ ρ → D.ct σ H'
  rt : ∀ ρ σ d v G' H', P (.ret ρ d) → Same G G' → Sta Pv G0 H0 G' H' σ ρ → Dv G' v d → D.rt v H'
  nw : ∀ ρ σ ds p xs G' H', P (.new ρ ds) → Same G G' → Sta Pv G0 H0 G' H' σ ρ → H0 p = none → G' p = none → H' p = some (.lst xs) → Dvs G' xs ds → D.rt (.ref p) H'
  xc : ∀ C G' H', P (.exc C) → Fm Pv G0 H0 G' H' → E (.ref C) none H'
theorem Kn.up {E : XK} {P : Out → Prop} {Pv : Addr → Prop} {G0 H0 G G1 : Hp} {D : Ends} (k : Kn E P Pv G0 H0 G D) (e : Same G G1) : Kn E P Pv G0 H0 G1 D :=
  ⟨fun ρ σ G' H' p s => k.nx ρ σ G' H' p (e.trans s), fun ρ σ G' H' p s => k.bk ρ σ G' H' p (e.trans s), fun ρ σ G' H' p s => k.ct ρ σ G' H' p (e.trans s),
   fun ρ σ d v G' H' p s => k.rt ρ σ d v G' H' p (e.trans s), fun ρ σ ds p xs G' H' q s => k.nw ρ σ ds p xs G' H' q (e.trans s), k.xc⟩
theorem Kn.imp {E : XK} {P P' : Out → Prop} {Pv : Addr → Prop} {G0 H0 G : Hp} {D : Ends} (k : Kn E P Pv G0 H0 G D) (h : ∀ o, P' o → P o) : Kn E P' Pv G0 H0 G D :=
  ⟨fun ρ σ G' H' p => k.nx ρ σ G' H' (h _ p), fun ρ σ G' H' p => k.bk ρ σ G' H' (h _ p), fun ρ σ G' H' p => k.ct ρ σ G' H' (h _ p),
   fun ρ σ d v G' H' p => k.rt ρ σ d v G' H' (h _ p), fun ρ σ ds p xs G' H' q => k.nw ρ σ ds p xs G' H' (h _ q), fun C G' H' p => k.xc C G' H' (h _ p)⟩
def SO (E : XK) (t : TS) (ρ : Rho) (P : Out → Prop) : Prop := ∀ Pv G0 H0 G H σ D, Sta Pv G0 H0 G H σ ρ → Kn E P Pv G0 H0 G D → t D σ H
def Sca : PyData → Prop
  | .none => True
  | .bool _ => True
  | .int _ => True
  | .str _ => True
  | _ => False
theorem Sca.dv {d : PyData} (h : Sca d) {G G' : Hp} {v : V} (x : Dv G v d) : Dv G' v d := by
  cases x with
  | non => exact .non
  | bl b => exact .bl b
  | int i => exact .int i
  | str x => exact .str x
  | lst _ _ => exact h.elim
  | tup _ _ => exact h.elim
section
variable {E : XK} {ρ : Rho} {P P' : Out → Prop} {t u : TS} {te ta tb : TE} {tt : TT} {d : PyData} {ds : List PyData} {i j : Nat} {K : PySem.W.Frag}
theorem SO.imp (h : SO E t ρ P') (hp : ∀ o, P' o → P o) : SO E t ρ P := fun Pv G0 H0 G H σ D s k => h Pv G0 H0 G H σ D s (k.imp hp)
def After (E : XK) (u : TS) (P : Out → Prop) : Out → Prop
  | .nxt ρ => SO E u ρ P
  | o => P o
theorem so_seq (h : SO E t ρ (After E u P)) : SO E (tSeq t u) ρ P := fun Pv G0 H0 G H σ D s k =>
  h Pv G0 H0 G H σ { D with nx := u D } s ⟨fun ρ' σ' G' H' p e s' => p Pv G0 H0 G' H' σ' D s' (k.up e), k.bk, k.ct, k.rt, k.nw, k.xc⟩
theorem so_next (h : P (.nxt ρ)) : SO E tNext ρ P := fun Pv G0 H0 G H σ D s k => k.nx ρ σ G H h (.refl _) s
theorem so_break (h : P (.brk ρ)) : SO E tBreak ρ P := fun Pv G0 H0 G H σ D s k => k.bk ρ σ G H h (.refl _) s
theorem so_cont (h : P (.cnt ρ)) : SO E tCont ρ P := fun Pv G0 H0 G H σ D s k => k.ct ρ σ G H h (.refl _) s
theorem so_frz (q : ρ[i]? = some (Sl.own ds)) (h : SO E t (ρ.set i (.dat (.list ds))) P) : SO E t ρ P := fun Pv G0 H0 G H σ D s k => by
  obtain ⟨o, xs, _, _, hg, _, _, s'⟩ := s.frz q
  exact h Pv G0 H0 _ H σ D s' (k.up (same_new hg))
theorem so_asg (h : ED te ρ d) (hp : P (.nxt (ρ.set i (.dat d)))) : SO E (tAsg te (gName i)) ρ P := fun Pv G0 H0 G H σ D s k =>
  h G H σ s.vw _ fun v G' H' x hv => k.nx _ _ G' H' hp x.g ((s.grow x).set hv)
/-- a scalar, read off owned lists too -/
theorem so_asgS (h : ED te (fz ρ) d) (hd : Sca d) (hp : P (.nxt (ρ.set i (.dat d)))) : SO E (tAsg te (gName i)) ρ P := fun Pv G0 H0 G H σ D s k =>
  h H H σ s.fz _ fun v G' H' x hv => k.nx _ _ G H' hp (.refl _) ((s.more x.h).set (hd.dv hv))
theorem so_asgN (h : EN te ρ ds) (hp : P (.nxt (ρ.set i (.own ds)))) : SO E (tAsg te (gName i)) ρ P := fun Pv G0 H0 G H σ D s k =>
  h G H σ s.vw _ fun p xs G' H' x h1 h2 h3 h4 => k.nx _ _ G' H' hp x.g (s.setOwn x h1 h2 h3 h4)
theorem so_asg2 {a b : PyData} (h : ED te ρ (.tuple [a, b])) (hp : P (.nxt ((ρ.set i (.dat a)).set j (.dat b)))) : SO E (tAsg te (gTup K 2 (gCons (gName i) (gCons (gName j) gNil)))) ρ P := fun Pv G0 H0 G H σ D s k =>
  h G H σ s.vw _ fun v G' H' x hv => by
    cases hv with
    | tup h1 h2 =>
      cases h2 with
      | cons h2 h3 =>
        cases h3 with
        | cons h3 h4 =>
          cases h4
          exact ⟨_, _, rfl, SqT.of (x.e _ _ h1), rfl, _, _, rfl, _, _, rfl, rfl, k.nx _ _ G' H' hp x.g (((s.grow x).set h2).set h3)⟩
theorem so_par {t2 : TA} {a b : PyData} (h : EA t2 ρ [a, b]) (hp : P (.nxt ((ρ.set i (.dat a)).set j (.dat b)))) : SO E (tPar i j t2) ρ P := fun Pv G0 H0 G H σ D s k =>
  h G H σ s.vw _ fun vs G' H' x hv => by
    cases hv with
    | cons h2 h3 =>
      cases h3 with
      | cons h3 h4 =>
        cases h4
        exact ⟨_, _, rfl, k.nx _ _ G' H' hp x.g (((s.grow x).set h2).set h3)⟩
theorem so_ret (h : ED te ρ d) (hp : P (.ret ρ d)) : SO E (tRet te) ρ P := fun Pv G0 H0 G H σ D s k =>
  h G H σ s.vw _ fun v G' H' x hv => k.rt _ _ d v G' H' hp x.g (s.grow x) hv
theorem so_retS (h : ED te (fz ρ) d) (hd : Sca d) (hp : P (.ret ρ d)) : SO E (tRet te) ρ P := fun Pv G0 H0 G H σ D s k =>
  h H H σ s.fz _ fun v G' H' x hv => k.rt _ _ d v G H' hp (.refl _) (s.more x.h) (hd.dv hv)
theorem so_retN (h : EN te ρ ds) (hp : P (.new ρ ds)) : SO E (tRet te) ρ P := fun Pv G0 H0 G H σ D s k =>
  h G H σ s.vw _ fun p xs G' H' x h1 h2 h3 h4 => k.nw _ _ ds p xs G' H' hp x.g (s.grow x) (by
    cases q : H0 p with
    | none => rfl
    | some o => exact absurd h1 (s.fm.k p (by rw [q]; exact Option.some_ne_none _))) h2 h3 h4
/-- return of an owned list -/
theorem so_retO (q : ρ[i]? = some (Sl.own ds)) (hp : P (.new (ρ.set i .un) ds)) : SO E (tRet (tVar i)) ρ P := fun Pv G0 H0 G H σ D s k => by
  obtain ⟨o, xs, h1, h2, h3, h4, h5, _⟩ := s.frz q
  refine ⟨_, h1, ?_⟩
  have s' := s.gone (i := i) (w := some (.ref o))
  have e : σ.set i (some (V.ref o)) = σ := by
    apply List.ext_getElem?
    intro j
    by_cases hj : i = j
    · subst hj
      have hl := (List.getElem?_eq_some_iff.mp h1).1
      rw [List.getElem?_set_self hl, h1]
    · rw [List.getElem?_set_ne hj]
  rw [e] at s'
  exact k.nw _ _ ds o xs G H hp (.refl _) s' h5 h3 h2 h4
theorem so_if {b : Bool} (h : ET tt (fz ρ) b) (h1 : b = true → SO E t ρ P) (h2 : b = false → SO E u ρ P) : SO E (tIfS tt t u) ρ P := fun Pv G0 H0 G H σ D s k =>
  h H H σ s.fz _ fun H' x => by
    cases b with
    | true => exact iteT (h1 rfl Pv G0 H0 G H' σ D (s.more x) k)
    | false => exact iteF (h2 rfl Pv G0 H0 G H' σ D (s.more x) k)
theorem so_drop (h : ED te (fz ρ) d) (hp : P (.nxt ρ)) : SO E (tDrop te) ρ P := fun Pv G0 H0 G H σ D s k =>
  h H H σ s.fz _ fun v G' H' x hv => k.nx _ _ G H' hp (.refl _) (s.more x.h)
theorem so_aug {f : Int → Int → Int} {a b : Int} (q : ρ[i]? = some (Sl.dat (.int a))) (h : ED te (fz ρ) (.int b)) (hp : P (.nxt (ρ.set i (.dat (.int (f a b)))))) : SO E (tAug i te (ipI f)) ρ P := fun Pv G0 H0 G H σ D s k => by
  obtain ⟨v, e1, e2⟩ := s.vw.dt i _ q
  cases e2
  refine ⟨_, e1, h H H σ s.fz _ fun v G' H' x hv => ?_⟩
  cases hv
  exact ⟨a, b, rfl, rfl, k.nx _ _ G H' hp (.refl _) ((s.more x.h).set (.int _))⟩
/-- xs.append(e) -/
theorem so_app (q : ρ[i]? = some (Sl.own ds)) (h : ED te ρ d) (hl : ds.length < sizeLine) (hp : P (.nxt (ρ.set i (.own (ds ++ [d]))))) : SO E (tDrop (tBM K "list" rAppend (tVar i) (tCons te tNil))) ρ P := fun Pv G0 H0 G H σ D s k => by
  obtain ⟨o, xs, a1, a2, a3, a4, a5, _⟩ := s.mut (ds' := ds) q
  refine ⟨_, a1, .inl ⟨rfl, _, SqL.of a2⟩, h G H σ s.vw _ fun v G' H' x hv => ?_⟩
  have s1 := s.grow x
  obtain ⟨o', xs', b1, b2, b3, b4, b5, b6⟩ := s1.mut (ds' := ds ++ [d]) q
  rw [a1] at b1; cases b1
  exact ⟨o, xs', v, rfl, rfl, b2, by rw [b3.len]; exact hl, k.nx _ _ G' _ hp x.g (b6 _ (b3.app (.cons hv .nil)))⟩
theorem so_appS (q : ρ[i]? = some (Sl.own ds)) (h : ED te (fz ρ) d) (hd : Sca d) (hl : ds.length < sizeLine) (hp : P (.nxt (ρ.set i (.own (ds ++ [d]))))) : SO E (tDrop (tBM K "list" rAppend (tVar i) (tCons te tNil))) ρ P := fun Pv G0 H0 G H σ D s k => by
  obtain ⟨o, xs, a1, a2, a3, a4, a5, _⟩ := s.mut (ds' := ds) q
  refine ⟨_, a1, .inl ⟨rfl, _, SqL.of a2⟩, h H H σ s.fz _ fun v G' H' x hv => ?_⟩
  have s1 := s.more x.h
  obtain ⟨o', xs', b1, b2, b3, b4, b5, b6⟩ := s1.mut (ds' := ds ++ [d]) q
  rw [a1] at b1; cases b1
  exact ⟨o, xs', v, rfl, rfl, b2, by rw [b3.len]; exact hl, k.nx _ _ G _ hp (.refl _) (b6 _ (b3.app (.cons (hd.dv hv) .nil)))⟩
/-- a target of a loop -/
def TS_ (g : TG) (d : PyData) (ρ ρ' : Rho) : Prop := ∀ Pv G0 H0 G H σ v Q, Sta Pv G0 H0 G H σ ρ → Dv G v d → (∀ σ', Sta Pv G0 H0 G H σ' ρ' → Q σ' H) → g v σ H Q
theorem ts_name : TS_ (gName i) d ρ (ρ.set i (.dat d)) := fun Pv G0 H0 G H σ v Q s h q => q _ (s.set h)
theorem ts_pair {a b : PyData} : TS_ (gTup K 2 (gCons (gName i) (gCons (gName j) gNil))) (.tuple [a, b]) ρ ((ρ.set i (.dat a)).set j (.dat b)) := fun Pv G0 H0 G H σ v Q s h q => by
  cases h with
  | tup h1 h2 =>
    cases h2 with
    | cons h2 h3 =>
      cases h3 with
      | cons h3 h4 =>
        cases h4
        exact ⟨_, _, rfl, SqT.of (s.vw.e _ _ h1), rfl, _, _, rfl, _, _, rfl, rfl, q _ ((s.set h2).set h3)⟩
/-- how a turn of a loop may end -/
def Turn (I : Rho → Prop) (P : Out → Prop) : Out → Prop
  | .nxt ρ => I ρ
  | .cnt ρ => I ρ
  | .brk ρ => P (.nxt ρ)
  | o => P o
theorem so_for {α : Type} {wi : TI} {g : TG} {tb : TS} {xs : List α} {en : α → PyData} (hi : EI wi ρ (xs.map en)) (I : Nat → Rho → Prop) (h0 : I 0 ρ)
    (hs : ∀ (n : Nat) x ρ', xs[n]? = some x → I n ρ' → ∃ ρ2, TS_ g (en x) ρ' ρ2 ∧ SO E tb ρ2 (Turn (I (n + 1)) P)) (hd : ∀ ρ', I xs.length ρ' → P (.nxt ρ')) : SO E (tFor wi g tb) ρ P := fun Pv G0 H0 G H σ D s k =>
  hi G H σ s.vw _ fun J G1 H1 x1 wk => by
    have s1 := s.grow x1
    refine ⟨fun n m σ2 H2 => m = xs.length - n ∧ n ≤ xs.length ∧ ∃ G2 ρ2, Same G1 G2 ∧ Sta Pv G0 H0 G2 H2 σ2 ρ2 ∧ I n ρ2, ⟨xs.length, by simp, Nat.zero_le _, G1, ρ, .refl _, s1, h0⟩, ?_⟩
    rintro n m σ2 H2 ⟨rfl, hle, G2, ρ2, e2, s2, hI⟩
    by_cases hlt : n < xs.length
    · refine .inr ⟨wk.go n H2 (e2.trans s2.fm.e) (by rw [List.length_map]; exact hlt), fun σ3 H3 => n + 1 ≤ xs.length ∧ ∃ G3 ρ3, Same G1 G3 ∧ Sta Pv G0 H0 G3 H3 σ3 ρ3 ∧ I (n + 1) ρ3, fun σ3 H3 z => ⟨xs.length - (n + 1), by omega, rfl, z⟩, fun x H3 y => ?_⟩
      have hx : xs[n]? = some xs[n] := List.getElem?_eq_getElem hlt
      obtain ⟨G3, x3, hv⟩ := wk.yl n (en xs[n]) H2 x H3 (e2.trans s2.fm.e) (by rw [List.getElem?_map, hx]; rfl) y G2 e2 s2.fm.e
      obtain ⟨ρ3, tg, so⟩ := hs n _ ρ2 hx hI
      refine tg Pv G0 H0 G3 H3 σ2 x _ (s2.grow x3) hv fun σ4 s4 => ?_
      have e3 : Same G1 G3 := e2.trans x3.g
      refine so Pv G0 H0 G3 H3 σ4 _ s4 ⟨fun ρ5 σ5 G5 H5 p e s5 => ⟨hlt, G5, ρ5, e3.trans e, s5, p⟩, fun ρ5 σ5 G5 H5 p e s5 => ?_, fun ρ5 σ5 G5 H5 p e s5 => ⟨hlt, G5, ρ5, e3.trans e, s5, p⟩, fun ρ5 σ5 d v G5 H5 p e s5 => ?_, fun ρ5 σ5 ds p xs G5 H5 q e s5 => ?_, fun C G5 H5 p => k.xc C G5 H5 p⟩
      · exact k.nx ρ5 σ5 G5 H5 p (x1.g.trans (e3.trans e)) s5
      · exact k.rt ρ5 σ5 d v G5 H5 p (x1.g.trans (e3.trans e)) s5
      · exact k.nw ρ5 σ5 ds p xs G5 H5 q (x1.g.trans (e3.trans e)) s5
    · have e1 : n = xs.length := by omega
      subst e1
      refine .inl ⟨by have := wk.st H2 (e2.trans s2.fm.e); rw [List.length_map] at this; exact this, ?_⟩
      exact k.nx ρ2 σ2 G2 H2 (hd ρ2 hI) (x1.g.trans e2) s2
theorem so_while {c : TT} {tb : TS} (I : Nat → Rho → Prop) (m0 : Nat) (h0 : I m0 ρ) (hs : ∀ m ρ', I m ρ' → ∃ b, ET c (fz ρ') b ∧ (b = true → SO E tb ρ' (Turn (fun r => ∃ m', m' < m ∧ I m' r) P)) ∧ (b = false → P (.nxt ρ'))) : SO E (tWhile c tb) ρ P := fun Pv G0 H0 G H σ D s k => by
  refine ⟨fun m σ2 H2 => ∃ G2 ρ2, Same G G2 ∧ Sta Pv G0 H0 G2 H2 σ2 ρ2 ∧ I m ρ2, ⟨m0, G, ρ, .refl _, s, h0⟩, ?_⟩
  rintro m σ2 H2 ⟨G2, ρ2, e2, s2, hI⟩
  obtain ⟨b, hb, h1, h2⟩ := hs m ρ2 hI
  refine hb H2 H2 σ2 s2.fz _ fun H3 x3 => ?_
  have s3 := s2.more x3
  cases b with
  | true =>
    refine iteT ⟨fun σ4 H4 => ∃ m', m' < m ∧ ∃ G4 ρ4, Same G G4 ∧ Sta Pv G0 H0 G4 H4 σ4 ρ4 ∧ I m' ρ4, fun _ _ z => z, ?_⟩
    refine h1 rfl Pv G0 H0 G2 H3 σ2 _ s3 ⟨fun ρ5 σ5 G5 H5 p e s5 => ?_, fun ρ5 σ5 G5 H5 p e s5 => ?_, fun ρ5 σ5 G5 H5 p e s5 => ?_, fun ρ5 σ5 d v G5 H5 p e s5 => ?_, fun ρ5 σ5 ds p xs G5 H5 q e s5 => ?_, fun C G5 H5 p => k.xc C G5 H5 p⟩
    · obtain ⟨m', a, b⟩ := p
      exact ⟨m', a, G5, ρ5, e2.trans e, s5, b⟩
    · exact k.nx ρ5 σ5 G5 H5 p (e2.trans e) s5
    · obtain ⟨m', a, b⟩ := p
      exact ⟨m', a, G5, ρ5, e2.trans e, s5, b⟩
    · exact k.rt ρ5 σ5 d v G5 H5 p (e2.trans e) s5
    · exact k.nw ρ5 σ5 ds p xs G5 H5 q (e2.trans e) s5
  | false => exact iteF (k.nx ρ2 σ2 G2 H3 (h2 rfl) e2 s3)
end
/-! ### promises -/
inductive Rs where
  | ok (d : PyData)
  | nw (ds : List PyData)
  | er (C : Addr)
def Is : Out → Rs → Prop
  | .nxt _, .ok d => d = .none
  | .ret _ d, .ok d' => d = d'
  | .new _ ds, .nw ds' => ds = ds'
  | .new _ ds, .ok d => d = .list ds
  | .exc C, .er C' => C = C'
  | _, _ => False
def Wish (G H : Hp) (Q : VK) (E : XK) : Rs → Prop
  | .ok d => ∀ v G' H', Gr G H G' H' → Dv G' v d → Q v H'
  | .nw ds => ∀ p xs G' H', Gr G H G' H' → H p = none → G' p = none → H' p = some (.lst xs) → Dvs G' xs ds → Q (.ref p) H'
  | .er C => ∀ H', Same H H' → E (.ref C) none H'
def PrS (rel : List PyData → Rs → Prop) : Sp := fun vs H Q E => ∃ G ds r, Same G H ∧ Dvs G vs ds ∧ rel ds r ∧ Wish G H Q E r
def stR (n : Nat) (ds : List PyData) : Rho := ds.map Sl.dat ++ List.replicate (n - ds.length) Sl.un
theorem sta_start {G H : Hp} {N : List Str} {vs : List V} {ds : List PyData} (e : Same G H) (hv : Dvs G vs ds) : Sta (fun _ => False) G H G H (L2.start N vs) (stR N.length ds) := by
  have hl := hv.len
  have gd : ∀ (i : Nat) (z : Sl), (stR N.length ds)[i]? = some z → z = .un ∨ ∃ d, ds[i]? = some d ∧ z = .dat d := fun i z q => by
    unfold stR at q
    by_cases hi : i < ds.length
    · rw [List.getElem?_append_left (by simpa using hi), List.getElem?_map, List.getElem?_eq_getElem hi] at q
      cases q
      exact .inr ⟨_, List.getElem?_eq_getElem hi, rfl⟩
    · rw [List.getElem?_append_right (by simpa using hi), List.getElem?_replicate] at q
      split at q
      · cases q; exact .inl rfl
      · cases q
  refine ⟨.refl e, ⟨e, ?_, fun i d q => ?_⟩, fun _ _ => none, fun i ds' q => ?_, fun i R q => ?_, fun i a o q => ?_, fun i j a hij q => rfl⟩
  · unfold L2.start stR
    simp only [List.length_append, List.length_map, List.length_replicate, hl]
  · rcases gd i _ q with z | ⟨d', q', z⟩
    · cases z
    · cases z
      obtain ⟨v, a, b⟩ := hv.get q'
      refine ⟨v, ?_, b⟩
      unfold L2.start
      rw [List.getElem?_append_left (by rw [List.length_map]; exact (List.getElem?_eq_some_iff.mp a).1), List.getElem?_map, a]; rfl
  · rcases gd i _ q with z | ⟨d', q', z⟩ <;> cases z
  · rcases gd i _ q with z | ⟨d', q', z⟩ <;> cases z
  · cases q
theorem body_ok {E : XK} {t : TS} {N : List Str} {vs : List V} {ds : List PyData} {G H : Hp} {Q : VK} {r : Rs} (e : Same G H) (hv : Dvs G vs ds) (w : Wish G H Q E r) (h : SO E t (stR N.length ds) (fun o => Is o r)) : t { nx := fun _ H' => Q .non H', rt := Q } (L2.start N vs) H := by
  refine h _ _ _ _ _ _ _ (sta_start e hv) ⟨fun ρ σ G' H' p _ s => ?_, fun ρ σ G' H' p _ s => ?_, fun ρ σ G' H' p _ s => ?_, fun ρ σ d v G' H' p _ s hv => ?_, fun ρ σ ds p xs G' H' q _ s h1 h2 h3 h4 => ?_, fun C G' H' p m => ?_⟩
  · cases r with
    | ok d => cases p; exact w _ G' H' s.fm.gr .non
    | nw ds => exact p.elim
    | er C => exact p.elim
  · cases r <;> exact p.elim
  · cases r <;> exact p.elim
  · cases r with
    | ok d => cases p; exact w _ G' H' s.fm.gr hv
    | nw ds => exact p.elim
    | er C => exact p.elim
  · cases r with
    | ok d => cases q; exact w _ _ H' (s.fm.gr.take h1 h2 h3) (.lst upd_same (h4.up (same_new h2)))
    | nw ds => cases q; exact w p xs G' H' s.fm.gr h1 h2 h3 h4
    | er C => exact q.elim
  · cases r with
    | ok d => exact p.elim
    | nw ds => exact p.elim
    | er C' => cases p; exact w H' m.gr.h
section
variable {E : XK} {ρ : Rho} {P : Out → Prop} {ta : TA} {d : PyData} {ds ds' : List PyData} {rel : List PyData → Rs → Prop}
theorem ed_call (h : EA ta ρ ds) (hr : rel ds (.ok d)) : ED (tCall (PrS rel) [] E ta) ρ d := fun G H σ w Q q => h G H σ w _ fun vs G1 H1 x1 h1 =>
  ⟨G1, ds, .ok d, x1.e, by rw [List.append_nil]; exact h1, hr, fun v G' H' x hv => q v G' H' (x1.trans x) hv⟩
theorem en_call (h : EA ta ρ ds) (hr : rel ds (.nw ds')) : EN (tCall (PrS rel) [] E ta) ρ ds' := fun G H σ w Q q => h G H σ w _ fun vs G1 H1 x1 h1 =>
  ⟨G1, ds, .nw ds', x1.e, by rw [List.append_nil]; exact h1, hr, fun p xs G' H' x a b c e => q p xs G' H' (x1.trans x) (x1.h.free a) b c e⟩
theorem ed_callN (h : EA ta ρ ds) (hr : rel ds (.nw ds')) : ED (tCall (PrS rel) [] E ta) ρ (.list ds') := (en_call h hr).ed
theorem ed_callS {E' : St → XK} (h : EA ta ρ ds) (hr : rel ds (.ok d)) : ED (tCallS (PrS rel) E' ta) ρ d := fun G H σ w Q q => h G H σ w _ fun vs G1 H1 x1 h1 =>
  ⟨G1, ds, .ok d, x1.e, h1, hr, fun v G' H' x hv => q v G' H' (x1.trans x) hv⟩
theorem en_callS {E' : St → XK} (h : EA ta ρ ds) (hr : rel ds (.nw ds')) : EN (tCallS (PrS rel) E' ta) ρ ds' := fun G H σ w Q q => h G H σ w _ fun vs G1 H1 x1 h1 =>
  ⟨G1, ds, .nw ds', x1.e, h1, hr, fun p xs G' H' x a b c e => q p xs G' H' (x1.trans x) (x1.h.free a) b c e⟩
/-- f(..) as a statement, f may raise -/
theorem so_callX {r : Rs} (h : EA ta (fz ρ) ds) (hr : rel ds r) (h1 : ∀ d, r = .ok d → P (.nxt ρ)) (h2 : ∀ ds, r = .nw ds → P (.nxt ρ)) (h3 : ∀ C, r = .er C → P (.exc C)) : SO E (tDrop (tCallS (PrS rel) (WE fun cls d _ H => E cls d H) ta)) ρ P := fun Pv G0 H0 G H σ D s k =>
  h H H σ s.fz _ fun vs G1 H1 x1 hd => ⟨G1, ds, r, x1.e, hd, hr, by
    cases r with
    | ok d => exact fun v G' H' x hv => k.nx _ _ G H' (h1 d rfl) (.refl _) (s.more (x1.h.trans x.h))
    | nw ds => exact fun p xs G' H' x _ _ _ _ => k.nx _ _ G H' (h2 ds rfl) (.refl _) (s.more (x1.h.trans x.h))
    | er C => exact fun H' x => k.xc C G H' (h3 C rfl) (s.more (x1.h.trans x)).fm⟩
/-- return f(..), f may raise -/
theorem so_retX {r : Rs} (h : EA ta ρ ds) (hr : rel ds r) (h1 : ∀ d, r = .ok d → P (.ret ρ d)) (h2 : ∀ ds, r = .nw ds → P (.new ρ ds)) (h3 : ∀ C, r = .er C → P (.exc C)) : SO E (tRet (tCallS (PrS rel) (WE fun cls d _ H => E cls d H) ta)) ρ P := fun Pv G0 H0 G H σ D s k =>
  h G H σ s.vw _ fun vs G1 H1 x1 hd => ⟨G1, ds, r, x1.e, hd, hr, by
    have s1 := s.grow x1
    cases r with
    | ok d => exact fun v G' H' x hv => k.rt _ _ d v G' H' (h1 d rfl) (x1.g.trans x.g) (s1.grow x) hv
    | nw ds => exact fun p xs G' H' x a b c e => k.nw _ _ ds p xs G' H' (h2 ds rfl) (x1.g.trans x.g) (s1.grow x) (by
        cases q : H0 p with
        | none => rfl
        | some o => exact absurd a (s1.fm.k p (by rw [q]; exact Option.some_ne_none _))) b c e
    | er C => exact fun H' x => k.xc C G1 H' (h3 C rfl) (s1.more x).fm⟩
theorem so_raise {C : Addr} (h : P (.exc C)) : SO E (fun _ σ H => E (.ref C) none H) ρ P := fun Pv G0 H0 G H σ D s k => k.xc C G H h s.fm
end
end Dl

namespace Dl
open PySem L2
/-! ### forms of data -/
abbrev dI (ns : List Int) : PyData := .list (ns.map PyData.int)
def cy (p : Int × Int) : PyData := .tuple [.int p.1, .int p.2]
abbrev dC (cs : List (Int × Int)) : PyData := .list (cs.map cy)
/-- an item by an index of any sign -/
def gI {α : Type} [Inhabited α] (xs : List α) (i : Int) : α := if 0 ≤ i then xs.getD i.toNat default else xs.getD (i + xs.length).toNat default
theorem gI_nat {α : Type} [Inhabited α] (xs : List α) (k : Nat) : gI xs (k : Int) = xs.getD k default := by
  unfold gI
  rw [if_pos (Int.natCast_nonneg k), Int.toNat_natCast]
theorem gI_get {α : Type} [Inhabited α] {xs : List α} {i : Int} (h1 : -(xs.length : Int) ≤ i) (h2 : i < xs.length) : atI xs i = some (gI xs i) := by
  unfold atI ixN gI
  by_cases h : 0 ≤ i
  · rw [if_pos h, if_pos h2, if_pos h]
    have : i.toNat < xs.length := by omega
    show xs[i.toNat]? = _
    rw [List.getElem?_eq_getElem this, List.getD_eq_getElem?_getD, List.getElem?_eq_getElem this]; rfl
  · rw [if_neg h, if_neg h, if_pos h1]
    have : (i + xs.length).toNat < xs.length := by omega
    show xs[(i + xs.length).toNat]? = _
    rw [List.getElem?_eq_getElem this, List.getD_eq_getElem?_getD, List.getElem?_eq_getElem this]; rfl
theorem atI_map {α β : Type} {f : α → β} {xs : List α} {i : Int} {x : α} (h : atI xs i = some x) : atI (xs.map f) i = some (f x) := by
  unfold atI at h ⊢
  rw [List.length_map]
  cases e : ixN xs.length i with
  | none => rw [e] at h; cases h
  | some j =>
    rw [e] at h
    show (xs.map f)[j]? = _
    rw [List.getElem?_map, show xs[j]? = some x from h]; rfl
theorem Dvs.at {G : Hp} {xs : List V} {ds : List PyData} {i : Int} {d : PyData} (h : Dvs G xs ds) (q : atI ds i = some d) : ∃ v, atI xs i = some v ∧ Dv G v d := by
  unfold atI at q ⊢
  rw [h.len]
  cases e : ixN ds.length i with
  | none => rw [e] at q; cases q
  | some j => rw [e] at q; exact h.get q
def cut {α : Type} (xs : List α) (lo hi : Option Int) : List α := (xs.drop (HT.sIx xs.length 0 lo)).take (HT.sIx xs.length xs.length hi - HT.sIx xs.length 0 lo)
theorem cut_map {α β : Type} (f : α → β) (xs : List α) (lo hi : Option Int) : cut (xs.map f) lo hi = (cut xs lo hi).map f := by
  unfold cut
  rw [List.length_map, List.map_take, List.map_drop]
theorem Dvs.cut {G : Hp} {xs : List V} {ds : List PyData} (h : Dvs G xs ds) (lo hi : Option Int) : Dvs G (cutV xs lo hi) (Dl.cut ds lo hi) := by
  unfold cutV Dl.cut
  rw [h.len]
  exact (h.drop _).take _
theorem size_of {n : Nat} (h : n ≤ 16777216) : n ≤ sizeLine := by rw [sizeLine_eq]; exact h
theorem size_lt {n : Nat} (h : n < 16777216) : n < sizeLine := by rw [sizeLine_eq]; exact h
section
variable {K : PySem.W.Frag} {ρ : Rho} {te ta tb : TE} {d d1 d2 a b : PyData} {ds es : List PyData} {i j : Int} {r r' : R2}
theorem rd_l (h : RD r a b d) : RD (fun x y H Q => r x y H Q ∨ r' x y H Q) a b d := fun G H v w e h1 h2 Q q => .inl (h G H v w e h1 h2 Q q)
theorem rd_r (h : RD r' a b d) : RD (fun x y H Q => r x y H Q ∨ r' x y H Q) a b d := fun G H v w e h1 h2 Q q => .inr (h G H v w e h1 h2 Q q)
theorem rn_l (h : RN r a b ds) : RN (fun x y H Q => r x y H Q ∨ r' x y H Q) a b ds := fun G H v w e h1 h2 Q q => .inl (h G H v w e h1 h2 Q q)
theorem rn_r (h : RN r' a b ds) : RN (fun x y H Q => r x y H Q ∨ r' x y H Q) a b ds := fun G H v w e h1 h2 Q q => .inr (h G H v w e h1 h2 Q q)
/-! ints -/
theorem rd_i {f : Int → Int → Int} : RD (rI0 fun x y => .int (f x y)) (.int i) (.int j) (.int (f i j)) := fun G H v w e h1 h2 Q q => by cases h1; cases h2; exact ⟨i, j, rfl, rfl, q _ G H (.refl e) (.int _)⟩
theorem rd_b {f : Int → Int → Bool} : RD (rI0 fun x y => .bl (f x y)) (.int i) (.int j) (.bool (f i j)) := fun G H v w e h1 h2 Q q => by cases h1; cases h2; exact ⟨i, j, rfl, rfl, q _ G H (.refl e) (.bl _)⟩
theorem rd_c {C : Int → Int → Prop} {f : Int → Int → Int} (hc : C i j) : RD (rI C fun x y => .int (f x y)) (.int i) (.int j) (.int (f i j)) := fun G H v w e h1 h2 Q q => by cases h1; cases h2; exact ⟨i, j, rfl, rfl, hc, q _ G H (.refl e) (.int _)⟩
/-! + -/
def rAddA (K : PySem.W.Frag) : R2 := fun x y H Q => rI0 (fun i j => .int (i + j)) x y H Q ∨ (rCat x y H Q ∨ (rCatA K x y H Q ∨ (∃ i j, x = .str i ∧ y = .str j ∧ i.length + j.length ≤ sizeLine ∧ Q (.str (i ++ j)) H)))
theorem rd_add : RD (rAddA K) (.int i) (.int j) (.int (i + j)) := fun G H v w e h1 h2 Q q => .inl (rd_i (f := fun i j => i + j) G H v w e h1 h2 Q q)
theorem rn_cat (hl : ds.length + es.length ≤ 16777216) : RN (rAddA K) (.list ds) (.list es) (ds ++ es) := fun G H v w e h1 h2 Q q => by
  cases h1 with
  | lst h1 k1 =>
    cases h2 with
    | lst h2 k2 => exact .inr (.inl ⟨_, _, _, _, rfl, rfl, e _ _ h1, e _ _ h2, by rw [k1.len, k2.len]; exact size_of hl, fun p hp => q p _ G _ (.hid e hp) hp (e.free hp) upd_same (k1.app k2)⟩)
theorem rn_catM {α : Type} {f : α → PyData} {xs ys : List α} (hl : xs.length + ys.length ≤ 16777216) : RN (rAddA K) (.list (xs.map f)) (.list (ys.map f)) ((xs ++ ys).map f) := by
  rw [List.map_append]
  exact rn_cat (by rw [List.length_map, List.length_map]; exact hl)
theorem rd_catT (hl : ds.length + es.length ≤ 16777216) : RD (rAddA K) (.tuple ds) (.tuple es) (.tuple (ds ++ es)) := fun G H v w e h1 h2 Q q => by
  cases h1 with
  | @tup a1 x1 _ h1 k1 =>
    cases h2 with
    | @tup a2 x2 _ h2 k2 =>
      refine .inr (.inr (.inl ⟨_, _, _, _, rfl, rfl, SqT.of (e _ _ h1), SqT.of (e _ _ h2), by rw [k1.len, k2.len]; exact size_of hl, fun z => ?_, fun _ z => ?_, fun _ _ p hp => q _ _ _ (.new e hp) (.tup upd_same ((k1.app k2).up (same_new (e.free hp))))⟩))
      · subst z; cases k1
        exact q _ G H (.refl e) (.tup h2 k2)
      · subst z; cases k2
        rw [List.append_nil] at q
        exact q _ G H (.refl e) (.tup h1 k1)
theorem rd_addS {x y : Str} (hl : x.length + y.length ≤ 16777216) : RD (rAddA K) (.str x) (.str y) (.str (x ++ y)) := fun G H v w e h1 h2 Q q => by
  cases h1; cases h2
  exact .inr (.inr (.inr ⟨x, y, rfl, rfl, size_of hl, q _ G H (.refl e) (.str _)⟩))
/-! * -/
def rMulA : R2 := fun x y H Q => rI CMul (fun i j => .int (i * j)) x y H Q ∨ rRep x y H Q
theorem rd_mul (h : (-(2 ^ 64) < i ∧ i < 2 ^ 64) ∨ (-(2 ^ 64) < j ∧ j < 2 ^ 64)) : RD rMulA (.int i) (.int j) (.int (i * j)) := fun G H v w e h1 h2 Q q => .inl (rd_c (C := CMul) (f := fun i j => i * j) h G H v w e h1 h2 Q q)
theorem dvs_rep {G : Hp} {xs : List V} (h : Dvs G xs ds) : ∀ n : Nat, Dvs G (List.replicate n xs).flatten (List.replicate n ds).flatten
  | 0 => .nil
  | n + 1 => by rw [List.replicate_succ, List.replicate_succ, List.flatten_cons, List.flatten_cons]; exact h.app (dvs_rep h n)
theorem rn_rep (h1 : 0 ≤ j) (hl : ds.length * j.toNat ≤ 16777216) (h2 : j < 2 ^ 63) : RN rMulA (.list ds) (.int j) (List.replicate j.toNat ds).flatten := fun G H v w e k1 k2 Q q => by
  cases k2
  cases k1 with
  | lst k1 k2 => exact .inr ⟨_, j, _, rfl, rfl, e _ _ k1, by omega, h2, by rw [k2.len]; exact size_of hl, fun p hp => q p _ G _ (.hid e hp) hp (e.free hp) upd_same (dvs_rep k2 _)⟩
/-! items -/
theorem rd_ix (h : atI ds i = some d) : RD (rIx K) (.list ds) (.int i) d := fun G H v w e h1 h2 Q q => by
  cases h2
  cases h1 with
  | lst h1 k1 =>
    obtain ⟨v, hv, hd⟩ := k1.at h
    exact .inl ⟨_, _, _, _, rfl, rfl, SqL.of (e _ _ h1), hv, q _ G H (.refl e) hd⟩
theorem rd_ixM {α : Type} [Inhabited α] {f : α → PyData} {xs : List α} (h1 : -(xs.length : Int) ≤ i) (h2 : i < xs.length) : RD (rIx K) (.list (xs.map f)) (.int i) (f (gI xs i)) := rd_ix (atI_map (gI_get h1 h2))
theorem rd_ixT (h : atI ds i = some d) : RD (rIx K) (.tuple ds) (.int i) d := fun G H v w e h1 h2 Q q => by
  cases h2
  cases h1 with
  | tup h1 k1 =>
    obtain ⟨v, hv, hd⟩ := k1.at h
    exact .inr (.inl ⟨_, _, _, _, rfl, rfl, SqT.of (e _ _ h1), hv, q _ G H (.refl e) hd⟩)
theorem rd_cy0 {p : Int × Int} : RD (rIx K) (cy p) (.int 0) (.int p.1) := rd_ixT rfl
theorem rd_cy1 {p : Int × Int} : RD (rIx K) (cy p) (.int 1) (.int p.2) := rd_ixT rfl
/-! slices -/
theorem en_sl {tl th : TO} {lo hi : Option Int} (h : ED te ρ (.list ds)) (h1 : EO tl ρ lo) (h2 : EO th ρ hi) : EN (tSl (rSlL K) te tl th) ρ (cut ds lo hi) := fun G H σ w Q q =>
  h G H σ w _ fun v G1 H1 x1 hd => h1 G1 H1 σ (w.grow x1) _ fun H2 x2 => h2 G1 H2 σ ((w.grow x1).more x2) _ fun H3 x3 => by
    have x := x1.trans (Gr.flat x1.e (x2.trans x3))
    cases hd with
    | lst k1 k2 => exact ⟨_, _, rfl, SqL.of (x.e _ _ k1), fun p hp => q p _ G1 _ (x.trans (.hid x.e hp)) (x.h.free hp) (x.e.free hp) upd_same (k2.cut lo hi)⟩
theorem en_slM {α : Type} {f : α → PyData} {xs : List α} {tl th : TO} {lo hi : Option Int} (h : ED te ρ (.list (xs.map f))) (h1 : EO tl ρ lo) (h2 : EO th ρ hi) : EN (tSl (rSlL K) te tl th) ρ ((cut xs lo hi).map f) := by
  rw [← cut_map]
  exact en_sl h h1 h2
theorem en_rev {α : Type} {f : α → PyData} {xs : List α} (h : ED te ρ (.list (xs.map f))) : EN (tRevL K te) ρ (xs.reverse.map f) := fun G H σ w Q q =>
  h G H σ w _ fun v G1 H1 x1 hd => by
    cases hd with
    | lst k1 k2 => exact ⟨_, _, rfl, SqL.of (x1.e _ _ k1), fun p hp => q p _ G1 _ (x1.trans (.hid x1.e hp)) (x1.h.free hp) (x1.e.free hp) upd_same (by rw [List.map_reverse]; exact k2.rev)⟩
/-! == -/
def Pl (n : Nat) (d : PyData) : Prop := d.canLay0 = true ∧ d.depth ≤ n
theorem Pl.shaped {n : Nat} (h : Pl n d) (hn : n ≤ 64) : SeqAt.shaped d = true := by
  unfold SeqAt.shaped
  rw [h.1, decide_eq_true (Nat.le_trans h.2 hn)]; rfl
theorem Pl.up {n m : Nat} (h : Pl n d) (hn : n ≤ m) : Pl m d := ⟨h.1, Nat.le_trans h.2 hn⟩
theorem pl_all {n : Nat} : ∀ {ds : List PyData}, (∀ d ∈ ds, Pl n d) → PyData.canLayAll0 ds = true ∧ PyData.depthAll ds ≤ n
  | [], _ => ⟨by simp [PyData.canLayAll0], by simp [PyData.depthAll]⟩
  | d :: ds, h => by
    have h1 := h d List.mem_cons_self
    have h2 := pl_all fun z q => h z (List.mem_cons_of_mem _ q)
    exact ⟨by simp [PyData.canLayAll0, h1.1, h2.1], by simp only [PyData.depthAll]; exact Nat.max_le.mpr ⟨h1.2, h2.2⟩⟩
theorem pl_list {n : Nat} (h : ∀ d ∈ ds, Pl n d) : Pl (n + 1) (.list ds) := ⟨by simp only [PyData.canLay0]; exact (pl_all h).1, by simp only [PyData.depth]; exact Nat.succ_le_succ (pl_all h).2⟩
theorem pl_tup {n : Nat} (h : ∀ d ∈ ds, Pl n d) : Pl (n + 1) (.tuple ds) := ⟨by simp only [PyData.canLay0]; exact (pl_all h).1, by simp only [PyData.depth]; exact Nat.succ_le_succ (pl_all h).2⟩
theorem pl_int {n : Nat} (i : Int) : Pl n (.int i) := ⟨by simp [PyData.canLay0], by simp [PyData.depth]⟩
theorem pl_bool {n : Nat} (i : Bool) : Pl n (.bool i) := ⟨by simp [PyData.canLay0], by simp [PyData.depth]⟩
theorem pl_none {n : Nat} : Pl n .none := ⟨by simp [PyData.canLay0], by simp [PyData.depth]⟩
theorem pl_dI (ns : List Int) : Pl 1 (dI ns) := pl_list fun d h => by
  obtain ⟨i, _, rfl⟩ := List.mem_map.mp h
  exact pl_int i
theorem pl_cy (p : Int × Int) : Pl 1 (cy p) := pl_tup fun d h => by
  rcases List.mem_cons.mp h with rfl | h
  · exact pl_int _
  · rcases List.mem_cons.mp h with rfl | h
    · exact pl_int _
    · cases h
theorem pl_dC (cs : List (Int × Int)) : Pl 2 (dC cs) := pl_list fun d h => by
  obtain ⟨p, _, rfl⟩ := List.mem_map.mp h
  exact pl_cy p
theorem pl_map {α : Type} {n : Nat} {f : α → PyData} (h : ∀ x, Pl n (f x)) (xs : List α) : Pl (n + 1) (.list (xs.map f)) := pl_list fun d q => by
  obtain ⟨p, _, rfl⟩ := List.mem_map.mp q
  exact h p
theorem rd_eq {n m : Nat} (ha : Pl n a) (hb : Pl m b) (hn : n ≤ 64 := by decide) (hm : m ≤ 64 := by decide) : RD (rEqD K) a b (.bool (PyData.eqv a b)) := fun G H v w e h1 h2 Q q =>
  ⟨a, b, (h1.up e).dp, (h2.up e).dp, ha.shaped hn, hb.shaped hm, q _ G H (.refl e) (.bl _)⟩
theorem rd_ne {n m : Nat} (ha : Pl n a) (hb : Pl m b) (hn : n ≤ 64 := by decide) (hm : m ≤ 64 := by decide) : RD (rNeD K) a b (.bool (!PyData.eqv a b)) := fun G H v w e h1 h2 Q q =>
  ⟨a, b, (h1.up e).dp, (h2.up e).dp, ha.shaped hn, hb.shaped hm, q _ G H (.refl e) (.bl _)⟩
theorem rd_is {r : R2} (h : RD r a b d) (e : d = d1) : RD r a b d1 := e ▸ h
theorem eqv_int : PyData.eqv (.int i) (.int j) = decide (i = j) := by simp only [PyData.eqv]; rw [Bool.beq_eq_decide_eq]
theorem eqv_bool {x y : Bool} : PyData.eqv (.bool x) (.bool y) = decide (x = y) := by simp only [PyData.eqv]; rw [Bool.beq_eq_decide_eq]
theorem eqv_map {α : Type} [DecidableEq α] {f : α → PyData} (h : ∀ x y, PyData.eqv (f x) (f y) = decide (x = y)) : ∀ xs ys : List α, PyData.eqvAll (xs.map f) (ys.map f) = decide (xs = ys)
  | [], [] => by simp [PyData.eqvAll]
  | [], y :: ys => by simp [PyData.eqvAll]
  | x :: xs, [] => by simp [PyData.eqvAll]
  | x :: xs, y :: ys => by
    simp only [List.map_cons, PyData.eqvAll, h, eqv_map h xs ys, List.cons.injEq]
    by_cases h1 : x = y <;> by_cases h2 : xs = ys <;> simp [h1, h2]
theorem eqv_dI (ns ms : List Int) : PyData.eqv (dI ns) (dI ms) = decide (ns = ms) := by
  simp only [PyData.eqv]
  exact eqv_map (fun _ _ => eqv_int) ns ms
theorem eqv_cy (p q : Int × Int) : PyData.eqv (cy p) (cy q) = decide (p = q) := by
  obtain ⟨a, b⟩ := p
  obtain ⟨c, d⟩ := q
  unfold cy
  simp only [PyData.eqv, PyData.eqvAll, Bool.beq_eq_decide_eq, Prod.mk.injEq, Bool.and_true]
  by_cases h1 : a = c <;> by_cases h2 : b = d <;> simp [h1, h2]
theorem eqv_dC (ns ms : List (Int × Int)) : PyData.eqv (dC ns) (dC ms) = decide (ns = ms) := by
  simp only [PyData.eqv]
  exact eqv_map eqv_cy ns ms
theorem eqv_nil {α : Type} {f : α → PyData} (xs : List α) : PyData.eqv (.list (xs.map f)) (.list []) = xs.isEmpty := by
  cases xs <;> simp [PyData.eqv, PyData.eqvAll]
theorem rd_eqI : RD (rEqD K) (.int i) (.int j) (.bool (decide (i = j))) := by rw [← eqv_int]; exact rd_eq (n := 0) (m := 0) (pl_int _) (pl_int _)
theorem rd_neI : RD (rNeD K) (.int i) (.int j) (.bool (!decide (i = j))) := by rw [← eqv_int]; exact rd_ne (n := 0) (m := 0) (pl_int _) (pl_int _)
theorem rd_eqB {x y : Bool} : RD (rEqD K) (.bool x) (.bool y) (.bool (decide (x = y))) := by rw [← eqv_bool]; exact rd_eq (n := 0) (m := 0) (pl_bool _) (pl_bool _)
theorem rd_neB {x y : Bool} : RD (rNeD K) (.bool x) (.bool y) (.bool (!decide (x = y))) := by rw [← eqv_bool]; exact rd_ne (n := 0) (m := 0) (pl_bool _) (pl_bool _)
theorem rd_eqL {ns ms : List Int} : RD (rEqD K) (dI ns) (dI ms) (.bool (decide (ns = ms))) := by rw [← eqv_dI]; exact rd_eq (pl_dI _) (pl_dI _)
theorem rd_neL {ns ms : List Int} : RD (rNeD K) (dI ns) (dI ms) (.bool (!decide (ns = ms))) := by rw [← eqv_dI]; exact rd_ne (pl_dI _) (pl_dI _)
theorem rd_eqC {ns ms : List (Int × Int)} : RD (rEqD K) (dC ns) (dC ms) (.bool (decide (ns = ms))) := by rw [← eqv_dC]; exact rd_eq (pl_dC _) (pl_dC _)
theorem rd_neC {ns ms : List (Int × Int)} : RD (rNeD K) (dC ns) (dC ms) (.bool (!decide (ns = ms))) := by rw [← eqv_dC]; exact rd_ne (pl_dC _) (pl_dC _)
theorem rd_eqN {ns : List Int} : RD (rEqD K) (dI ns) (.list []) (.bool ns.isEmpty) := by rw [← eqv_nil (f := PyData.int)]; exact rd_eq (pl_dI _) (pl_list (n := 0) (ds := []) fun _ h => by cases h)
theorem rd_neN {ns : List Int} : RD (rNeD K) (dI ns) (.list []) (.bool (!ns.isEmpty)) := by rw [← eqv_nil (f := PyData.int)]; exact rd_ne (pl_dI _) (pl_list (n := 0) (ds := []) fun _ h => by cases h)
theorem rd_eqCN {ns : List (Int × Int)} : RD (rEqD K) (dC ns) (.list []) (.bool ns.isEmpty) := by rw [← eqv_nil (f := cy)]; exact rd_eq (pl_dC _) (pl_list (n := 0) (ds := []) fun _ h => by cases h)
theorem rd_neCN {ns : List (Int × Int)} : RD (rNeD K) (dC ns) (.list []) (.bool (!ns.isEmpty)) := by rw [← eqv_nil (f := cy)]; exact rd_ne (pl_dC _) (pl_list (n := 0) (ds := []) fun _ h => by cases h)
/-! is -/
def rIsA : R2 := fun x y H Q => rIsB x y H Q ∨ (y = .non ∧ Q (.bl (decide (x = .non))) H)
def rNotA : R2 := fun x y H Q => rNotB x y H Q ∨ (y = .non ∧ Q (.bl (!decide (x = .non))) H)
theorem rd_isB {x y : Bool} : RD rIsA (.bool x) (.bool y) (.bool (decide (x = y))) := fun G H v w e h1 h2 Q q => by cases h1; cases h2; exact .inl ⟨x, y, rfl, rfl, q _ G H (.refl e) (.bl _)⟩
theorem rd_notB {x y : Bool} : RD rNotA (.bool x) (.bool y) (.bool (!decide (x = y))) := fun G H v w e h1 h2 Q q => by cases h1; cases h2; exact .inl ⟨x, y, rfl, rfl, q _ G H (.refl e) (.bl _)⟩
def isNone : PyData → Bool
  | .none => true
  | _ => false
theorem dv_none {G : Hp} {v : V} (h : Dv G v a) : decide (v = .non) = isNone a := by
  cases h <;> simp [isNone]
theorem rd_isN : RD rIsA a .none (.bool (isNone a)) := fun G H v w e h1 h2 Q q => by cases h2; exact .inr ⟨rfl, by rw [dv_none h1]; exact q _ G H (.refl e) (.bl _)⟩
theorem rd_notN : RD rNotA a .none (.bool (!isNone a)) := fun G H v w e h1 h2 Q q => by cases h2; exact .inr ⟨rfl, by rw [dv_none h1]; exact q _ G H (.refl e) (.bl _)⟩
/-! in -/
theorem rd_in {n m : Nat} (ha : Pl n a) (hb : Pl m (.list ds)) (hn : n ≤ 64 := by decide) (hm : m ≤ 64 := by decide) : RD (rInD K) a (.list ds) (.bool (ds.any fun z => PyData.eqv z a)) := fun G H v w e h1 h2 Q q =>
  ⟨a, ds, (h1.up e).dp, (h2.up e).dp, ha.shaped hn, hb.shaped hm, q _ G H (.refl e) (.bl _)⟩
theorem rd_notIn {n m : Nat} (ha : Pl n a) (hb : Pl m (.list ds)) (hn : n ≤ 64 := by decide) (hm : m ≤ 64 := by decide) : RD (rNotInD K) a (.list ds) (.bool (!ds.any fun z => PyData.eqv z a)) := fun G H v w e h1 h2 Q q =>
  ⟨a, ds, (h1.up e).dp, (h2.up e).dp, ha.shaped hn, hb.shaped hm, q _ G H (.refl e) (.bl _)⟩
theorem any_eqv {α : Type} [DecidableEq α] {f : α → PyData} (h : ∀ x y, PyData.eqv (f x) (f y) = decide (x = y)) (xs : List α) (y : α) : ((xs.map f).any fun z => PyData.eqv z (f y)) = decide (y ∈ xs) := by
  induction xs with
  | nil => simp
  | cons x xs ih =>
    rw [List.map_cons, List.any_cons, ih, h]
    by_cases h1 : x = y
    · subst h1; simp
    · by_cases h2 : y ∈ xs <;> simp [h1, h2, Ne.symm h1]
theorem rd_inI {ns : List Int} : RD (rInD K) (.int i) (dI ns) (.bool (decide (i ∈ ns))) := by rw [← any_eqv (f := PyData.int) (fun _ _ => eqv_int)]; exact rd_in (n := 0) (pl_int _) (pl_dI _)
theorem rd_notInI {ns : List Int} : RD (rNotInD K) (.int i) (dI ns) (.bool (!decide (i ∈ ns))) := by rw [← any_eqv (f := PyData.int) (fun _ _ => eqv_int)]; exact rd_notIn (n := 0) (pl_int _) (pl_dI _)
theorem rd_inC {p : Int × Int} {ns : List (Int × Int)} : RD (rInD K) (cy p) (dC ns) (.bool (decide (p ∈ ns))) := rd_is (rd_in (pl_cy p) (pl_dC ns)) (congrArg PyData.bool ((any_eqv (f := cy) eqv_cy ns p).trans (decide_eq_decide.mpr Iff.rfl)))
theorem rd_notInC {p : Int × Int} {ns : List (Int × Int)} : RD (rNotInD K) (cy p) (dC ns) (.bool (!decide (p ∈ ns))) := rd_is (rd_notIn (pl_cy p) (pl_dC ns)) (congrArg (fun b => PyData.bool (!b)) ((any_eqv (f := cy) eqv_cy ns p).trans (decide_eq_decide.mpr Iff.rfl)))
end
end Dl

/-! sorting, least and greatest: plain lists -/
namespace Rf
def ins {α : Type} (le : α → α → Bool) (x : α) : List α → List α
  | [] => [x]
  | y :: ys => if le x y then x :: y :: ys else y :: ins le x ys
def isort {α : Type} (le : α → α → Bool) : List α → List α
  | [] => []
  | x :: xs => ins le x (isort le xs)
theorem ins_perm {α : Type} (le : α → α → Bool) (x : α) : ∀ l : List α, (ins le x l).Perm (x :: l)
  | [] => .refl _
  | y :: ys => by
    unfold ins
    split
    · exact .refl _
    · exact (List.Perm.cons y (ins_perm le x ys)).trans (List.Perm.swap x y ys)
theorem isort_perm {α : Type} (le : α → α → Bool) : ∀ l : List α, (isort le l).Perm l
  | [] => .refl _
  | x :: xs => (ins_perm le x _).trans ((isort_perm le xs).cons x)
theorem ins_srt {α : Type} {le : α → α → Bool} (tr : ∀ a b c, le a b = true → le b c = true → le a c = true) (tot : ∀ a b, le a b = true ∨ le b a = true) (x : α) : ∀ l : List α, l.Pairwise (fun a b => le a b = true) → (ins le x l).Pairwise (fun a b => le a b = true)
  | [], _ => by simp [ins]
  | y :: ys, h => by
    unfold ins
    by_cases hx : le x y = true
    · rw [if_pos hx]
      refine List.Pairwise.cons (fun z hz => ?_) h
      rcases List.mem_cons.mp hz with rfl | hz
      · exact hx
      · exact tr _ _ _ hx ((List.pairwise_cons.mp h).1 z hz)
    · rw [if_neg hx]
      have hy : le y x = true := (tot x y).resolve_left hx
      refine List.Pairwise.cons (fun z hz => ?_) (ins_srt tr tot x ys (List.pairwise_cons.mp h).2)
      rcases List.mem_cons.mp ((ins_perm le x ys).mem_iff.mp hz) with rfl | hz
      · exact hy
      · exact (List.pairwise_cons.mp h).1 z hz
theorem isort_srt {α : Type} {le : α → α → Bool} (tr : ∀ a b c, le a b = true → le b c = true → le a c = true) (tot : ∀ a b, le a b = true ∨ le b a = true) : ∀ l : List α, (isort le l).Pairwise (fun a b => le a b = true)
  | [] => List.Pairwise.nil
  | x :: xs => ins_srt tr tot x _ (isort_srt tr tot xs)
def leI (a b : Int) : Bool := decide (a ≤ b)
def leC (p q : Int × Int) : Bool := decide (p.1 < q.1) || (decide (p.1 = q.1) && decide (p.2 ≤ q.2))
theorem leI_iff {a b : Int} : leI a b = true ↔ a ≤ b := by unfold leI; exact decide_eq_true_iff
theorem leC_iff {p q : Int × Int} : leC p q = true ↔ p.1 < q.1 ∨ (p.1 = q.1 ∧ p.2 ≤ q.2) := by unfold leC; simp
abbrev srtI (l : List Int) : List Int := isort leI l
abbrev srtC (l : List (Int × Int)) : List (Int × Int) := isort leC l
theorem leI_tr (a b c : Int) (h1 : leI a b = true) (h2 : leI b c = true) : leI a c = true := by rw [leI_iff] at *; omega
theorem leI_tot (a b : Int) : leI a b = true ∨ leI b a = true := by rw [leI_iff, leI_iff]; omega
theorem leC_tr (a b c : Int × Int) (h1 : leC a b = true) (h2 : leC b c = true) : leC a c = true := by rw [leC_iff] at *; omega
theorem leC_tot (a b : Int × Int) : leC a b = true ∨ leC b a = true := by rw [leC_iff, leC_iff]; omega
theorem leC_anti {a b : Int × Int} (h1 : leC a b = true) (h2 : leC b a = true) : a = b := by
  rw [leC_iff] at *
  obtain ⟨a1, a2⟩ := a
  obtain ⟨b1, b2⟩ := b
  simp only at h1 h2
  simp only [Prod.mk.injEq]
  omega
theorem srtI_perm (l : List Int) : (srtI l).Perm l := isort_perm leI l
theorem srtC_perm (l : List (Int × Int)) : (srtC l).Perm l := isort_perm leC l
theorem srtI_srt (l : List Int) : (srtI l).Pairwise (fun a b => leI a b = true) := isort_srt leI_tr leI_tot l
theorem srtC_srt (l : List (Int × Int)) : (srtC l).Pairwise (fun a b => leC a b = true) := isort_srt leC_tr leC_tot l
theorem srtI_uniq {l m : List Int} (h : m.Pairwise (fun a b => leI a b = true)) (p : m.Perm l) : m = srtI l :=
  List.Perm.eq_of_pairwise (fun a b _ _ h1 h2 => by rw [leI_iff] at h1 h2; omega) h (srtI_srt l) (p.trans (srtI_perm l).symm)
theorem srtC_uniq {l m : List (Int × Int)} (h : m.Pairwise (fun a b => leC a b = true)) (p : m.Perm l) : m = srtC l :=
  List.Perm.eq_of_pairwise (fun a b _ _ h1 h2 => leC_anti h1 h2) h (srtC_srt l) (p.trans (srtC_perm l).symm)
theorem srtC_congr {l m : List (Int × Int)} (p : l.Perm m) : srtC l = srtC m := srtC_uniq (srtC_srt l) ((srtC_perm l).trans p)
theorem srtI_congr {l m : List Int} (p : l.Perm m) : srtI l = srtI m := srtI_uniq (srtI_srt l) ((srtI_perm l).trans p)
theorem srtC_self {l : List (Int × Int)} (h : l.Pairwise (fun a b => leC a b = true)) : srtC l = l := (srtC_uniq h (.refl _)).symm
theorem srtI_self {l : List Int} (h : l.Pairwise (fun a b => leI a b = true)) : srtI l = l := (srtI_uniq h (.refl _)).symm
theorem srtC_idem (l : List (Int × Int)) : srtC (srtC l) = srtC l := srtC_self (srtC_srt l)
theorem srtC_len (l : List (Int × Int)) : (srtC l).length = l.length := (srtC_perm l).length_eq
theorem srtC_mem {l : List (Int × Int)} {p : Int × Int} : p ∈ srtC l ↔ p ∈ l := (srtC_perm l).mem_iff
theorem srtI_len (l : List Int) : (srtI l).length = l.length := (srtI_perm l).length_eq
/-! the least and the greatest -/
def lmin : List Int → Int
  | [] => 0
  | [x] => x
  | x :: y :: r => min x (lmin (y :: r))
def lmax : List Int → Int
  | [] => 0
  | [x] => x
  | x :: y :: r => max x (lmax (y :: r))
theorem lmin_mem : ∀ {l : List Int}, l ≠ [] → lmin l ∈ l
  | [], h => absurd rfl h
  | [x], _ => by simp [lmin]
  | x :: y :: r, _ => by
    have ih := lmin_mem (l := y :: r) (by simp)
    unfold lmin
    rcases Int.le_total x (lmin (y :: r)) with h | h
    · rw [Int.min_eq_left h]; exact List.mem_cons_self
    · rw [Int.min_eq_right h]; exact List.mem_cons_of_mem _ ih
theorem lmax_mem : ∀ {l : List Int}, l ≠ [] → lmax l ∈ l
  | [], h => absurd rfl h
  | [x], _ => by simp [lmax]
  | x :: y :: r, _ => by
    have ih := lmax_mem (l := y :: r) (by simp)
    unfold lmax
    rcases Int.le_total x (lmax (y :: r)) with h | h
    · rw [Int.max_eq_right h]; exact List.mem_cons_of_mem _ ih
    · rw [Int.max_eq_left h]; exact List.mem_cons_self
theorem lmin_le : ∀ {l : List Int} {y : Int}, y ∈ l → lmin l ≤ y
  | [], y, h => by cases h
  | [x], y, h => by simp at h; subst h; exact Int.le_refl _
  | x :: z :: r, y, h => by
    unfold lmin
    rcases List.mem_cons.mp h with rfl | h
    · exact Int.min_le_left _ _
    · exact Int.le_trans (Int.min_le_right _ _) (lmin_le h)
theorem le_lmax : ∀ {l : List Int} {y : Int}, y ∈ l → y ≤ lmax l
  | [], y, h => by cases h
  | [x], y, h => by simp at h; subst h; exact Int.le_refl _
  | x :: z :: r, y, h => by
    unfold lmax
    rcases List.mem_cons.mp h with rfl | h
    · exact Int.le_max_left _ _
    · exact Int.le_trans (le_lmax h) (Int.le_max_right _ _)
theorem lmin_uniq {l : List Int} {m : Int} (h : m ∈ l) (hm : ∀ y ∈ l, m ≤ y) : m = lmin l :=
  Int.le_antisymm (hm _ (lmin_mem (List.ne_nil_of_mem h))) (lmin_le h)
theorem lmax_uniq {l : List Int} {m : Int} (h : m ∈ l) (hm : ∀ y ∈ l, y ≤ m) : m = lmax l :=
  Int.le_antisymm (le_lmax h) (hm _ (lmax_mem (List.ne_nil_of_mem h)))
end Rf

namespace Dl
open PySem L2 Rf
/-! ### built-in calls on data -/
section
variable {K : PySem.W.Frag} {ρ : Rho} {te ta tb : TE} {d d1 d2 a b : PyData} {ds es : List PyData} {i j : Int}
def rLenA (K : PySem.W.Frag) : List V → Hp → VK → Prop := fun xs H Q => ∃ x n, xs = [x] ∧ LenV K x H n ∧ Q (.int n) H
theorem rc_len : RC (rLenA K) [.list ds] (.int (ds.length : Int)) := fun G H vs e h Q q => by
  cases h with
  | cons h1 h2 =>
    cases h2
    cases h1 with
    | lst k1 k2 => exact ⟨_, ds.length, rfl, .inl ⟨_, SqL.of (e _ _ k1), k2.len.symm⟩, q _ G H (.refl e) (.int _)⟩
theorem rc_lenM {α : Type} {f : α → PyData} {xs : List α} : RC (rLenA K) [.list (xs.map f)] (.int (xs.length : Int)) := by
  have := rc_len (K := K) (ds := xs.map f)
  rw [List.length_map] at this
  exact this
theorem rc_lenT : RC (rLenA K) [.tuple ds] (.int (ds.length : Int)) := fun G H vs e h Q q => by
  cases h with
  | cons h1 h2 =>
    cases h2
    cases h1 with
    | tup k1 k2 => exact ⟨_, ds.length, rfl, .inr ⟨_, SqT.of (e _ _ k1), k2.len.symm⟩, q _ G H (.refl e) (.int _)⟩
theorem rc_lenS {x : Str} (hx : x.length ≤ 16777216) : RC (rLenA K) [.str x] (.int (x.length : Int)) := fun G H vs e h Q q => by
  cases h with
  | cons h1 h2 =>
    cases h2
    cases h1
    exact ⟨_, x.length, rfl, ⟨size_of hx, rfl⟩, q _ G H (.refl e) (.int _)⟩
def rAbsA : List V → Hp → VK → Prop := fun xs H Q => ∃ i, xs = [.int i] ∧ Q (.int (if i < 0 then -i else i)) H
theorem rc_abs : RC rAbsA [.int i] (.int (i.natAbs : Int)) := fun G H vs e h Q q => by
  cases h with
  | cons h1 h2 =>
    cases h2; cases h1
    refine ⟨i, rfl, ?_⟩
    have : (if i < 0 then -i else i) = (i.natAbs : Int) := by split <;> omega
    rw [this]
    exact q _ G H (.refl e) (.int _)
def rMaxA (K : PySem.W.Frag) : List V → Hp → VK → Prop := fun xs H Q => (∃ i j, xs = [.int i, .int j] ∧ Q (.int (if j > i then j else i)) H) ∨ rMax K xs H Q
def rMinA (K : PySem.W.Frag) : List V → Hp → VK → Prop := fun xs H Q => (∃ i j, xs = [.int i, .int j] ∧ Q (.int (if j < i then j else i)) H) ∨ rMin K xs H Q
theorem rc_max2 : RC (rMaxA K) [.int i, .int j] (.int (max i j)) := fun G H vs e h Q q => by
  cases h with
  | cons h1 h2 =>
    cases h2 with
    | cons h2 h3 =>
      cases h3; cases h1; cases h2
      refine .inl ⟨i, j, rfl, ?_⟩
      have : (if j > i then j else i) = max i j := by omega
      rw [this]
      exact q _ G H (.refl e) (.int _)
theorem rc_min2 : RC (rMinA K) [.int i, .int j] (.int (min i j)) := fun G H vs e h Q q => by
  cases h with
  | cons h1 h2 =>
    cases h2 with
    | cons h2 h3 =>
      cases h3; cases h1; cases h2
      refine .inl ⟨i, j, rfl, ?_⟩
      have : (if j < i then j else i) = min i j := by omega
      rw [this]
      exact q _ G H (.refl e) (.int _)
theorem rc_max {ns : List Int} (hn : ns ≠ []) : RC (rMaxA K) [dI ns] (.int (lmax ns)) := fun G H vs e h Q q => by
  cases h with
  | cons h1 h2 =>
    cases h2
    cases h1 with
    | lst k1 k2 =>
      have := Dvs.ints _ _ k2
      subst this
      refine .inr ⟨_, ns, rfl, SqL.of (e _ _ k1), List.length_pos_iff.mpr hn, fun m hm hle => ?_⟩
      rw [lmax_uniq hm hle]
      exact q _ G H (.refl e) (.int _)
theorem rc_min {ns : List Int} (hn : ns ≠ []) : RC (rMinA K) [dI ns] (.int (lmin ns)) := fun G H vs e h Q q => by
  cases h with
  | cons h1 h2 =>
    cases h2
    cases h1 with
    | lst k1 k2 =>
      have := Dvs.ints _ _ k2
      subst this
      refine .inr ⟨_, ns, rfl, SqL.of (e _ _ k1), List.length_pos_iff.mpr hn, fun m hm hle => ?_⟩
      rw [lmin_uniq hm hle]
      exact q _ G H (.refl e) (.int _)
theorem rc_sum {ns : List Int} : RC (rSum K) [dI ns] (.int ns.sum) := fun G H vs e h Q q => by
  cases h with
  | cons h1 h2 =>
    cases h2
    cases h1 with
    | lst k1 k2 =>
      have := Dvs.ints _ _ k2
      subst this
      exact ⟨_, ns, rfl, SqL.of (e _ _ k1), q _ G H (.refl e) (.int _)⟩
theorem rc_all {bs : List Bool} : RC (rAll K) [.list (bs.map PyData.bool)] (.bool (bs.all id)) := fun G H vs e h Q q => by
  cases h with
  | cons h1 h2 =>
    cases h2
    cases h1 with
    | lst k1 k2 =>
      have := Dvs.bools _ _ k2
      subst this
      exact ⟨_, bs, rfl, SqL.of (e _ _ k1), q _ G H (.refl e) (.bl _)⟩
def rListA (K : PySem.W.Frag) : List V → Hp → VK → Prop := fun xs H Q => ∃ p ys, xs = [.ref p] ∧ (SqL K H p ys ∨ SqT K H p ys) ∧ ∀ l, H l = none → Q (.ref l) (upd H l (.lst ys))
theorem rcn_list : RCN (rListA K) [.list ds] ds := fun G H vs e h Q q => by
  cases h with
  | cons h1 h2 =>
    cases h2
    cases h1 with
    | lst k1 k2 => exact ⟨_, _, rfl, .inl (SqL.of (e _ _ k1)), fun p hp => q p _ G _ (.hid e hp) hp (e.free hp) upd_same k2⟩
theorem rcn_listT : RCN (rListA K) [.tuple ds] ds := fun G H vs e h Q q => by
  cases h with
  | cons h1 h2 =>
    cases h2
    cases h1 with
    | tup k1 k2 => exact ⟨_, _, rfl, .inr (SqT.of (e _ _ k1)), fun p hp => q p _ G _ (.hid e hp) hp (e.free hp) upd_same k2⟩
def rTupA (K : PySem.W.Frag) : List V → Hp → VK → Prop := fun xs H Q => ∃ p ys, xs = [.ref p] ∧ ((SqL K H p ys ∧ ∀ l, H l = none → Q (.ref l) (upd H l (.tup ys))) ∨ (SqT K H p ys ∧ Q (.ref p) H))
theorem rc_tupL : RC (rTupA K) [.list ds] (.tuple ds) := fun G H vs e h Q q => by
  cases h with
  | cons h1 h2 =>
    cases h2
    cases h1 with
    | lst k1 k2 => exact ⟨_, _, rfl, .inl ⟨SqL.of (e _ _ k1), fun p hp => q _ _ _ (.new e hp) (.tup upd_same (k2.up (same_new (e.free hp))))⟩⟩
theorem rc_tupT : RC (rTupA K) [.tuple ds] (.tuple ds) := fun G H vs e h Q q => by
  cases h with
  | cons h1 h2 =>
    cases h2
    cases h1 with
    | tup k1 k2 => exact ⟨_, _, rfl, .inr ⟨SqT.of (e _ _ k1), q _ G H (.refl e) (.tup k1 k2)⟩⟩
/-! sorted -/
def rSrtA (K : PySem.W.Frag) : List V → Hp → VK → Prop := fun xs H Q => rSortedI K xs H Q ∨ rSortedPO K xs H Q
theorem rcn_srtI {ns : List Int} : RCN (rSrtA K) [dI ns] ((srtI ns).map PyData.int) := fun G H vs e h Q q => by
  cases h with
  | cons h1 h2 =>
    cases h2
    cases h1 with
    | lst k1 k2 =>
      have := Dvs.ints _ _ k2
      subst this
      refine .inl ⟨_, ns, rfl, SqL.of (e _ _ k1), fun ns' p hp hs hf => ?_⟩
      have : ns' = srtI ns := srtI_uniq (hs.imp fun {a b} z => leI_iff.mpr z) hp
      subst this
      exact q p _ G _ (.hid e hf) hf (e.free hf) upd_same (dvs_ints _)
def rdP (G : Hp) : V → Int × Int
  | .ref t => match G t with
    | some (.tup [.int a, .int b]) => (a, b)
    | _ => (0, 0)
  | _ => (0, 0)
theorem dv_cy {G : Hp} {v : V} {p : Int × Int} (h : Dv G v (cy p)) : ∃ t, v = .ref t ∧ G t = some (.tup [.int p.1, .int p.2]) := by
  unfold cy at h
  cases h with
  | tup k1 k2 =>
    cases k2 with
    | cons k2 k3 =>
      cases k3 with
      | cons k3 k4 => cases k4; cases k2; cases k3; exact ⟨_, rfl, k1⟩
theorem rdP_of {G : Hp} {v : V} {p : Int × Int} (h : Dv G v (cy p)) : rdP G v = p := by
  obtain ⟨t, rfl, e⟩ := dv_cy h
  unfold rdP
  simp only [e]
theorem dvs_rdP {G : Hp} : ∀ {xs : List V} {cs : List (Int × Int)}, Dvs G xs (cs.map cy) → cs = xs.map (rdP G)
  | _, [], h => by cases h; rfl
  | _, c :: cs, h => by
    cases h with
    | cons h1 h2 => rw [List.map_cons, rdP_of h1, ← dvs_rdP h2]
theorem dvs_of_rdP {G : Hp} : ∀ {ys : List V}, (∀ y ∈ ys, ∃ p, Dv G y (cy p)) → Dvs G ys ((ys.map (rdP G)).map cy)
  | [], _ => .nil
  | y :: ys, h => by
    obtain ⟨p, hp⟩ := h y List.mem_cons_self
    refine .cons ?_ (dvs_of_rdP fun z q => h z (List.mem_cons_of_mem _ q))
    rw [rdP_of hp]; exact hp
theorem dvs_mem {G : Hp} {α : Type} {f : α → PyData} : ∀ {xs : List V} {cs : List α}, Dvs G xs (cs.map f) → ∀ x ∈ xs, ∃ c ∈ cs, Dv G x (f c)
  | _, [], h, x, hx => by cases h; cases hx
  | _, c :: cs, h, x, hx => by
    cases h with
    | cons h1 h2 =>
      rcases List.mem_cons.mp hx with rfl | hx
      · exact ⟨c, List.mem_cons_self, h1⟩
      · obtain ⟨c', h3, h4⟩ := dvs_mem h2 x hx
        exact ⟨c', List.mem_cons_of_mem _ h3, h4⟩
theorem rcn_srtC {cs : List (Int × Int)} : RCN (rSrtA K) [dC cs] ((srtC cs).map cy) := fun G H vs e h Q q => by
  cases h with
  | cons h1 h2 =>
    cases h2
    cases h1 with
    | @lst _ xs _ k1 k2 =>
      have hc := dvs_rdP k2
      refine .inr ⟨_, xs, rdP G, rfl, SqL.of (e _ _ k1), fun x hx => ?_, fun ys p hs hb hf => ?_⟩
      · obtain ⟨c, _, hd⟩ := dvs_mem k2 x hx
        obtain ⟨t, rfl, ht⟩ := dv_cy hd
        rw [rdP_of hd]
        exact ⟨t, rfl, e _ _ ht⟩
      · have hy : ys.map (rdP G) = srtC cs := by
          refine srtC_uniq ?_ ?_
          · rw [List.pairwise_map]
            refine hs.imp fun {a b} z => ?_
            have := SrtO.lexB_no.mp z
            rw [leC_iff]
            omega
          · rw [hc]
            exact hb.perm.map _
        have hd : Dvs G ys ((srtC cs).map cy) := by
          rw [← hy]
          refine dvs_of_rdP fun y hyy => ?_
          obtain ⟨c, _, hd⟩ := dvs_mem k2 y (hb.perm.mem_iff.mp hyy)
          exact ⟨c, hd⟩
        exact q p _ G _ (.hid e hf) hf (e.free hf) upd_same hd
/-! isinstance -/
def tyn : PyData → String
  | .none => "NoneType"
  | .bool _ => "bool"
  | .int _ => "int"
  | .str _ => "str"
  | .list _ => "list"
  | .tuple _ => "tuple"
  | .dict _ => "dict"
theorem dv_ty {G H : Hp} {v : V} (e : Same G H) (h : Dv G v d) : TyX K H v (.type (tyn d)) := by
  cases h with
  | non => exact .base .non
  | bl b => exact .base (.bl b)
  | int i => exact .base (.int i)
  | str x => exact .base (.str x)
  | lst k1 k2 => exact .base (.lst (e _ _ k1))
  | tup k1 k2 => exact .base (.tup (e _ _ k1))
theorem ed_isi {n : String} {r : Bool} (h : ED ta ρ d) (hk : kitB (tyn d) n = some r) : ED (tCB (rIsi K) (tCons ta (tCons (tC (.ty n)) tNil))) ρ (.bool r) := fun G H σ w Q q =>
  h G H σ w _ fun v G1 H1 x1 hd => ⟨v, .ty n, _, _, r, rfl, .ty n, dv_ty x1.e hd, kit_ty hk, q _ G1 H1 x1 (.bl _)⟩
/-! methods -/
theorem ed_index {α : Type} [DecidableEq α] {f : α → PyData} {xs : List α} {y : α} {n m : Nat} (hf : ∀ x y, PyData.eqv (f x) (f y) = decide (x = y)) (ha : ED ta ρ (.list (xs.map f))) (hb : ED tb ρ (f y)) (hy : y ∈ xs)
    (hp : ∀ x, Pl n (f x)) (hn : n + 1 ≤ 64 := by decide) : ED (tBM K "list" (rIndexD K) ta (tCons tb tNil)) ρ (.int (xs.idxOf y : Nat)) := fun G H σ w Q q =>
  ha G H σ w _ fun v G1 H1 x1 hd => by
    cases hd with
    | @lst a vs _ k1 k2 =>
      refine ⟨.inl ⟨rfl, _, SqL.of (x1.e _ _ k1)⟩, hb G1 H1 σ (w.grow x1) _ fun u G2 H2 x2 hu => ?_⟩
      have hlt : xs.idxOf y < xs.length := List.idxOf_lt_length_of_mem hy
      refine ⟨a, u, f y, xs.map f, xs.idxOf y, f y, rfl, rfl, Dv.dp (.lst (x2.e _ _ (x2.g _ _ k1)) (k2.up (x2.g.trans x2.e))), (hu.up x2.e).dp, (pl_map hp xs).shaped hn, (hp y).shaped (by omega), ?_, ?_, ?_, q _ G2 H2 (x1.trans x2) (.int _)⟩
      · rw [List.getElem?_map, List.getElem?_eq_getElem hlt, List.getElem_idxOf hlt]; rfl
      · rw [hf]; simp
      · intro m z hm hz
        rw [List.getElem?_map] at hz
        cases e : xs[m]? with
        | none => rw [e] at hz; cases hz
        | some x =>
          rw [e] at hz; cases hz
          rw [hf]
          have hml : m < xs.length := by omega
          refine decide_eq_false fun z => ?_
          have hx : xs[m] = y := by
            rw [List.getElem?_eq_getElem hml] at e
            cases e; exact z
          have hz := List.not_of_lt_findIdx (p := fun z => z == y) (xs := xs) (i := m) hm
          rw [hx] at hz
          simp at hz
end
/-! ### the rules of a context -/
section
variable {X : Cx}
theorem opr_or {f : Value → Value → Sem Value} {r r' : R2} (a : OpR X f r) (b : OpR X f r') : OpR X f (fun x y H Q => r x y H Q ∨ r' x y H Q) := fun pins s σ H x y v u Q I rx ry h =>
  h.elim (fun h => a pins s σ H x y v u Q I rx ry h) fun h => b pins s σ H x y v u Q I rx ry h
theorem cr_or {f : Value} {r r' : List V → Hp → VK → Prop} (a : CallR X f r) (b : CallR X f r') : CallR X f (fun xs H Q => r xs H Q ∨ r' xs H Q) := fun pins s σ H xs us Q I rx h =>
  h.elim (fun h => a pins s σ H xs us Q I rx h) fun h => b pins s σ H xs us Q I rx h
theorem op_addA : OpR X (binaryOp .Add) (rAddA X.K) := opr_or op_add (opr_or op_cat (opr_or op_catA op_add_str))
theorem op_mulA : OpR X (binaryOp .Mult) rMulA := opr_or op_mul op_rep
theorem op_isA : OpR X (compareOp .Is) rIsA := opr_or op_isBl op_isN
theorem op_notA : OpR X (compareOp .IsNot) rNotA := opr_or op_notBl op_notN
theorem cb_len : CallR X (.builtin "len") (rLenA X.K) := call_len
theorem cb_abs : CallR X (.builtin "abs") rAbsA := call_abs
theorem cb_max (hc : X.calm = true) : CallR X (.builtin "max") (rMaxA X.K) := cr_or (call_max2 hc) (cr_max hc)
theorem cb_min (hc : X.calm = true) : CallR X (.builtin "min") (rMinA X.K) := cr_or (call_min2 hc) (cr_min hc)
theorem cb_list : CallR X (.type "list") (rListA X.K) := call_list_of
theorem cb_tup : CallR X (.type "tuple") (rTupA X.K) := call_tuple_of
theorem cb_srt : CallR X (.builtin "sorted") (rSrtA X.K) := cr_or cr_sortedI cr_sortedPO
end
end Dl

namespace Dl
open PySem L2 Rf
theorem u65 {k : Nat} {A : Around} (r : Room k A) : A.units + 65 < cLine := by have := r.un; omega
theorem prs_len {rel : List PyData → Rs → Prop} {vs : List V} {H : Hp} {Q : VK} {E : XK} {n : Nat} (h : PrS rel vs H Q E) (hl : ∀ ds r, rel ds r → ds.length = n) : vs.length = n := by
  obtain ⟨G, ds, r, _, hv, hr, _⟩ := h
  rw [hv.len]; exact hl ds r hr
theorem PS_nox {X : Cx} {st : Stmt} {t : TS} (h : PS X.nox st t) : PS X st t := ⟨fun pins s σ H D I hw =>
  wpAny_mono (h.run pins s σ H D (I.wish _) hw) (fun _ _ q => q.unwish) fun _ _ z => False.elim z⟩
def Rl1 {α : Type} (enc : α → List PyData) (P : α → Rs → Prop) : List PyData → Rs → Prop := fun ds r => ∃ a, ds = enc a ∧ P a r
def Rl2 {α β : Type} (enc : α → β → List PyData) (P : α → β → Rs → Prop) : List PyData → Rs → Prop := fun ds r => ∃ a b, ds = enc a b ∧ P a b r
def Rl3 {α β γ : Type} (enc : α → β → γ → List PyData) (P : α → β → γ → Rs → Prop) : List PyData → Rs → Prop := fun ds r => ∃ a b c, ds = enc a b c ∧ P a b c r
theorem rl1_len {α : Type} {enc : α → List PyData} {P : α → Rs → Prop} {n : Nat} (h : ∀ a, (enc a).length = n) (ds : List PyData) (r : Rs) (z : Rl1 enc P ds r) : ds.length = n := by
  obtain ⟨a, rfl, _⟩ := z; exact h a
theorem rl2_len {α β : Type} {enc : α → β → List PyData} {P : α → β → Rs → Prop} {n : Nat} (h : ∀ a b, (enc a b).length = n) (ds : List PyData) (r : Rs) (z : Rl2 enc P ds r) : ds.length = n := by
  obtain ⟨a, b, rfl, _⟩ := z; exact h a b
theorem rl3_len {α β γ : Type} {enc : α → β → γ → List PyData} {P : α → β → γ → Rs → Prop} {n : Nat} (h : ∀ a b c, (enc a b c).length = n) (ds : List PyData) (r : Rs) (z : Rl3 enc P ds r) : ds.length = n := by
  obtain ⟨a, b, c, rfl, _⟩ := z; exact h a b c
theorem kb_NoneType_int : kitB "NoneType" "int" = some false := by decide +kernel
theorem kb_NoneType_bool : kitB "NoneType" "bool" = some false := by decide +kernel
theorem kb_NoneType_list : kitB "NoneType" "list" = some false := by decide +kernel
theorem kb_NoneType_tuple : kitB "NoneType" "tuple" = some false := by decide +kernel
theorem kb_NoneType_str : kitB "NoneType" "str" = some false := by decide +kernel
theorem kb_bool_int : kitB "bool" "int" = some true := by decide +kernel
theorem kb_bool_bool : kitB "bool" "bool" = some true := by decide +kernel
theorem kb_bool_list : kitB "bool" "list" = some false := by decide +kernel
theorem kb_bool_tuple : kitB "bool" "tuple" = some false := by decide +kernel
theorem kb_bool_str : kitB "bool" "str" = some false := by decide +kernel
theorem kb_int_int : kitB "int" "int" = some true := by decide +kernel
theorem kb_int_bool : kitB "int" "bool" = some false := by decide +kernel
theorem kb_int_list : kitB "int" "list" = some false := by decide +kernel
theorem kb_int_tuple : kitB "int" "tuple" = some false := by decide +kernel
theorem kb_int_str : kitB "int" "str" = some false := by decide +kernel
theorem kb_str_int : kitB "str" "int" = some false := by decide +kernel
theorem kb_str_bool : kitB "str" "bool" = some false := by decide +kernel
theorem kb_str_list : kitB "str" "list" = some false := by decide +kernel
theorem kb_str_tuple : kitB "str" "tuple" = some false := by decide +kernel
theorem kb_str_str : kitB "str" "str" = some true := by decide +kernel
theorem kb_list_int : kitB "list" "int" = some false := by decide +kernel
theorem kb_list_bool : kitB "list" "bool" = some false := by decide +kernel
theorem kb_list_list : kitB "list" "list" = some true := by decide +kernel
theorem kb_list_tuple : kitB "list" "tuple" = some false := by decide +kernel
theorem kb_list_str : kitB "list" "str" = some false := by decide +kernel
theorem kb_tuple_int : kitB "tuple" "int" = some false := by decide +kernel
theorem kb_tuple_bool : kitB "tuple" "bool" = some false := by decide +kernel
theorem kb_tuple_list : kitB "tuple" "list" = some false := by decide +kernel
theorem kb_tuple_tuple : kitB "tuple" "tuple" = some true := by decide +kernel
theorem kb_tuple_str : kitB "tuple" "str" = some false := by decide +kernel
theorem kb_dict_int : kitB "dict" "int" = some false := by decide +kernel
theorem kb_dict_bool : kitB "dict" "bool" = some false := by decide +kernel
theorem kb_dict_list : kitB "dict" "list" = some false := by decide +kernel
theorem kb_dict_tuple : kitB "dict" "tuple" = some false := by decide +kernel
theorem kb_dict_str : kitB "dict" "str" = some false := by decide +kernel
section
variable {K : PySem.W.Frag} {ρ : Rho} {te ta tb tl : TE} {tt : TT} {g : TG} {vs ks : List Nat} {d : PyData} {i j : Int}
theorem et_yes : ET tYes ρ true := fun G H σ w Q q => q H (.refl _)
theorem rg_mem {lo : Int} {n : Nat} {k : Int} (h : k ∈ rg lo n) : lo ≤ k ∧ k < lo + n := by
  unfold rg at h
  obtain ⟨i, hi, rfl⟩ := List.mem_map.mp h
  have := List.mem_range.mp hi
  omega
theorem set_wipe {i : Nat} {z : Sl} : (wipeR ρ [i]).set i z = ρ.set i z := by
  show (ρ.set i .un).set i z = ρ.set i z
  rw [List.set_set]
theorem en_lcL {α : Type} {i : Nat} {xs : List α} {en : α → PyData} {f : α → Bool} {e : α → PyData} (hi : ED tl ρ (.list (xs.map en))) (hl : xs.length < 16777216) (hv : vs = [i])
    (ht : ∀ x, x ∈ xs → ET tt (ρ.set i (.dat (en x))) (f x)) (he : ∀ x, x ∈ xs → f x = true → ED te (ρ.set i (.dat (en x))) (e x)) : EN (tLc (iList K tl) (gName i) tt te vs) ρ ((xs.filter f).map e) := by
  subst hv
  exact en_lc (ei_list hi) (ks := [i]) (fun _ h => h) (size_lt hl) fun x hx => ⟨_, tv_name, by rw [set_wipe]; exact ht x hx, by rw [set_wipe]; exact he x hx⟩
theorem en_lcT {α : Type} {i : Nat} {xs : List α} {en : α → PyData} {f : α → Bool} {e : α → PyData} (hi : ED tl ρ (.tuple (xs.map en))) (hl : xs.length < 16777216) (hv : vs = [i])
    (ht : ∀ x, x ∈ xs → ET tt (ρ.set i (.dat (en x))) (f x)) (he : ∀ x, x ∈ xs → f x = true → ED te (ρ.set i (.dat (en x))) (e x)) : EN (tLc (iTup K tl) (gName i) tt te vs) ρ ((xs.filter f).map e) := by
  subst hv
  exact en_lc (ei_tup hi) (ks := [i]) (fun _ h => h) (size_lt hl) fun x hx => ⟨_, tv_name, by rw [set_wipe]; exact ht x hx, by rw [set_wipe]; exact he x hx⟩
/-- over a list of pairs of ints -/
theorem en_lcC {i j : Nat} {xs : List (Int × Int)} {f : Int × Int → Bool} {e : Int × Int → PyData} (hi : ED tl ρ (.list (xs.map cy))) (hl : xs.length < 16777216) (hv : vs = [i, j])
    (ht : ∀ x, x ∈ xs → ET tt (((wipeR ρ [i, j]).set i (.dat (.int x.1))).set j (.dat (.int x.2))) (f x)) (he : ∀ x, x ∈ xs → f x = true → ED te (((wipeR ρ [i, j]).set i (.dat (.int x.1))).set j (.dat (.int x.2))) (e x)) :
    EN (tLc (iList K tl) (gTup K 2 (gCons (gName i) (gCons (gName j) gNil))) tt te vs) ρ ((xs.filter f).map e) := by
  subst hv
  exact en_lc (ei_list hi) (ks := [i, j]) (fun _ h => h) (size_lt hl) fun x hx => ⟨_, tv_pair, ht x hx, he x hx⟩
theorem en_lcR1 {i : Nat} {t : TA} {n : Int} {f : Int → Bool} {e : Int → PyData} (hi : EA t ρ [.int n]) (h1 : -(2 ^ 62) ≤ n) (hl : n < 16777216) (hv : vs = [i])
    (ht : ∀ k, 0 ≤ k → k < n → ET tt (ρ.set i (.dat (.int k))) (f k)) (he : ∀ k, 0 ≤ k → k < n → f k = true → ED te (ρ.set i (.dat (.int k))) (e k)) : EN (tLc (iRng1 t) (gName i) tt te vs) ρ (((rg 0 n.toNat).filter f).map e) := by
  subst hv
  exact en_lc (en := PyData.int) (ei_rng1 hi h1 (by omega)) (ks := [i]) (fun _ h => h) (size_lt (by rw [rg_len]; omega)) fun k hk => ⟨_, tv_name, by rw [set_wipe]; exact ht k (rg_mem hk).1 (by have := (rg_mem hk).2; have := (rg_mem hk).1; omega), by rw [set_wipe]; exact he k (rg_mem hk).1 (by have := (rg_mem hk).2; have := (rg_mem hk).1; omega)⟩
theorem en_lcR2 {i : Nat} {t : TA} {lo n : Int} {f : Int → Bool} {e : Int → PyData} (hi : EA t ρ [.int lo, .int n]) (h0 : 0 ≤ lo ∧ lo < 16777216) (h1 : -(2 ^ 62) ≤ n) (hl : n < 16777216) (hv : vs = [i])
    (ht : ∀ k, lo ≤ k → k < n → ET tt (ρ.set i (.dat (.int k))) (f k)) (he : ∀ k, lo ≤ k → k < n → f k = true → ED te (ρ.set i (.dat (.int k))) (e k)) : EN (tLc (iRng2 t) (gName i) tt te vs) ρ (((rg lo (n - lo).toNat).filter f).map e) := by
  subst hv
  exact en_lc (en := PyData.int) (ei_rng2 hi (by omega) h1 (by omega)) (ks := [i]) (fun _ h => h) (size_lt (by rw [rg_len]; omega)) fun k hk => ⟨_, tv_name, by rw [set_wipe]; exact ht k (rg_mem hk).1 (by have := (rg_mem hk).2; have := (rg_mem hk).1; omega), by rw [set_wipe]; exact he k (rg_mem hk).1 (by have := (rg_mem hk).2; have := (rg_mem hk).1; omega)⟩
theorem rn_cat1 {x : Int} {ys : List Int} (hl : ys.length < 16777216) : RN (rAddA K) (.list [PyData.int x]) (.list (ys.map PyData.int)) ((x :: ys).map PyData.int) := rn_catM (xs := [x]) (by simp; omega)
theorem rn_cat2 {x : Int} {ys : List Int} (hl : ys.length < 16777216) : RN (rAddA K) (.list (ys.map PyData.int)) (.list [PyData.int x]) ((ys ++ [x]).map PyData.int) := rn_catM (ys := [x]) (by simp; omega)
theorem len_mf {β : Type} (g : Int → β) (f : Int → Bool) (lo : Int) (n : Nat) : (((rg lo n).filter f).map g).length ≤ n := by
  rw [List.length_map]
  exact Nat.le_trans (List.length_filter_le _ _) (Nat.le_of_eq (rg_len lo n))
theorem cv_int {α : Type} {l : List α} {e : α → PyData} {z : α → Int} (h : ∀ k, e k = .int (z k)) : l.map e = (l.map z).map PyData.int := by
  rw [List.map_map]; exact List.map_congr_left fun k _ => h k
theorem cv_bool {α : Type} {l : List α} {e : α → PyData} {z : α → Bool} (h : ∀ k, e k = .bool (z k)) : l.map e = (l.map z).map PyData.bool := by
  rw [List.map_map]; exact List.map_congr_left fun k _ => h k
theorem cv_pair {α : Type} {l : List α} {e : α → PyData} {x y : α → Int} (h : ∀ k, e k = .tuple [.int (x k), .int (y k)]) : l.map e = (l.map fun k => (x k, y k)).map cy := by
  rw [List.map_map]; exact List.map_congr_left fun k _ => h k
theorem cv_cy {α : Type} {l : List α} {e : α → PyData} {x : α → Int × Int} (h : ∀ k, e k = cy (x k)) : l.map e = (l.map x).map cy := by
  rw [List.map_map]; exact List.map_congr_left fun k _ => h k
theorem cv_row {α : Type} {l : List α} {e : α → PyData} {x : α → List Int} (h : ∀ k, e k = .list ((x k).map PyData.int)) : l.map e = (l.map x).map fun r => dI r := by
  rw [List.map_map]; exact List.map_congr_left fun k _ => h k
theorem cv_yes {α : Type} {l : List α} {e : α → PyData} {r : List PyData} (h : l.map e = r) : (l.filter fun _ => true).map e = r := by
  rw [List.filter_eq_self.mpr fun _ _ => rfl]; exact h
theorem ed_lcL {α : Type} {i : Nat} {xs : List α} {en : α → PyData} {f : α → Bool} {e : α → PyData} (hi : ED tl ρ (.list (xs.map en))) (hl : xs.length < 16777216) (hv : vs = [i])
    (ht : ∀ x, x ∈ xs → ET tt (ρ.set i (.dat (en x))) (f x)) (he : ∀ x, x ∈ xs → f x = true → ED te (ρ.set i (.dat (en x))) (e x)) {r : List PyData} (hz : ((xs.filter f).map e) = r) : ED (tLc (iList K tl) (gName i) tt te vs) ρ (.list r) := hz ▸ (en_lcL hi hl hv ht he).ed
theorem ed_lcT {α : Type} {i : Nat} {xs : List α} {en : α → PyData} {f : α → Bool} {e : α → PyData} (hi : ED tl ρ (.tuple (xs.map en))) (hl : xs.length < 16777216) (hv : vs = [i])
    (ht : ∀ x, x ∈ xs → ET tt (ρ.set i (.dat (en x))) (f x)) (he : ∀ x, x ∈ xs → f x = true → ED te (ρ.set i (.dat (en x))) (e x)) {r : List PyData} (hz : ((xs.filter f).map e) = r) : ED (tLc (iTup K tl) (gName i) tt te vs) ρ (.list r) := hz ▸ (en_lcT hi hl hv ht he).ed
theorem ed_lcC {i j : Nat} {xs : List (Int × Int)} {f : Int × Int → Bool} {e : Int × Int → PyData} (hi : ED tl ρ (.list (xs.map cy))) (hl : xs.length < 16777216) (hv : vs = [i, j])
    (ht : ∀ x, x ∈ xs → ET tt (((wipeR ρ [i, j]).set i (.dat (.int x.1))).set j (.dat (.int x.2))) (f x)) (he : ∀ x, x ∈ xs → f x = true → ED te (((wipeR ρ [i, j]).set i (.dat (.int x.1))).set j (.dat (.int x.2))) (e x)) {r : List PyData} (hz : ((xs.filter f).map e) = r) :
    ED (tLc (iList K tl) (gTup K 2 (gCons (gName i) (gCons (gName j) gNil))) tt te vs) ρ (.list r) := hz ▸ (en_lcC hi hl hv ht he).ed
theorem ed_lcR1 {i : Nat} {t : TA} {n : Int} {f : Int → Bool} {e : Int → PyData} (hi : EA t ρ [.int n]) (h1 : -(2 ^ 62) ≤ n) (hl : n < 16777216) (hv : vs = [i])
    (ht : ∀ k, 0 ≤ k → k < n → ET tt (ρ.set i (.dat (.int k))) (f k)) (he : ∀ k, 0 ≤ k → k < n → f k = true → ED te (ρ.set i (.dat (.int k))) (e k)) {r : List PyData} (hz : (((rg 0 n.toNat).filter f).map e) = r) : ED (tLc (iRng1 t) (gName i) tt te vs) ρ (.list r) := hz ▸ (en_lcR1 hi h1 hl hv ht he).ed
theorem ed_lcR2 {i : Nat} {t : TA} {lo n : Int} {f : Int → Bool} {e : Int → PyData} (hi : EA t ρ [.int lo, .int n]) (h0 : 0 ≤ lo ∧ lo < 16777216) (h1 : -(2 ^ 62) ≤ n) (hl : n < 16777216) (hv : vs = [i])
    (ht : ∀ k, lo ≤ k → k < n → ET tt (ρ.set i (.dat (.int k))) (f k)) (he : ∀ k, lo ≤ k → k < n → f k = true → ED te (ρ.set i (.dat (.int k))) (e k)) {r : List PyData} (hz : (((rg lo (n - lo).toNat).filter f).map e) = r) : ED (tLc (iRng2 t) (gName i) tt te vs) ρ (.list r) := hz ▸ (en_lcR2 hi h0 h1 hl hv ht he).ed
theorem ed_lst {t : TA} {ds : List PyData} (h : EA t ρ ds) (hl : ds.length ≤ 16777216) : ED (tLst t) ρ (.list ds) := (en_lst h hl).ed
theorem ed_slM {α : Type} {f : α → PyData} {xs : List α} {tl th : TO} {lo hi : Option Int} (h : ED te ρ (.list (xs.map f))) (h1 : EO tl ρ lo) (h2 : EO th ρ hi) : ED (tSl (rSlL K) te tl th) ρ (.list ((cut xs lo hi).map f)) := (en_slM h h1 h2).ed
theorem ed_rev {α : Type} {f : α → PyData} {xs : List α} (h : ED te ρ (.list (xs.map f))) : ED (tRevL K te) ρ (.list (xs.reverse.map f)) := (en_rev h).ed
theorem rd_catM {α : Type} {f : α → PyData} {xs ys : List α} (hl : xs.length + ys.length ≤ 16777216) : RD (rAddA K) (.list (xs.map f)) (.list (ys.map f)) (.list ((xs ++ ys).map f)) := (rn_catM hl).rd
theorem rd_cat1 {x : Int} {ys : List Int} (hl : ys.length < 16777216) : RD (rAddA K) (.list [PyData.int x]) (.list (ys.map PyData.int)) (.list ((x :: ys).map PyData.int)) := (rn_cat1 hl).rd
theorem rd_cat2 {x : Int} {ys : List Int} (hl : ys.length < 16777216) : RD (rAddA K) (.list (ys.map PyData.int)) (.list [PyData.int x]) (.list ((ys ++ [x]).map PyData.int)) := (rn_cat2 hl).rd
theorem rc_srtI {ns : List Int} : RC (rSrtA K) [dI ns] (dI (srtI ns)) := rcn_srtI.rc
theorem rc_srtC {cs : List (Int × Int)} : RC (rSrtA K) [dC cs] (dC (srtC cs)) := rcn_srtC.rc
theorem rc_list {ds : List PyData} : RC (rListA K) [.list ds] (.list ds) := rcn_list.rc
theorem so_forR1 {E : XK} {P : Out → Prop} {t : TA} {tb : TS} {n : Int} (hi : EA t ρ [.int n]) (h1 : -(2 ^ 62) ≤ n) (hl : n < 16777216) (I : Nat → Rho → Prop) (h0 : I 0 ρ)
    (hs : ∀ (k : Nat) ρ', (k : Int) < n → I k ρ' → ∃ ρ2, TS_ g (.int (k : Int)) ρ' ρ2 ∧ SO E tb ρ2 (Turn (I (k + 1)) P)) (hd : ∀ ρ', I n.toNat ρ' → P (.nxt ρ')) : SO E (tFor (iRng1 t) g tb) ρ P :=
  so_for (en := PyData.int) (ei_rng1 hi h1 (by omega)) I h0 (fun k x ρ' hx hI => by
    have hk := (List.getElem?_eq_some_iff.mp hx).1
    rw [rg_len] at hk
    rw [rg_get hk] at hx
    cases hx
    rw [Int.zero_add]
    exact hs k ρ' (by omega) hI) (by rw [rg_len]; exact hd)
theorem so_forR2 {E : XK} {P : Out → Prop} {t : TA} {tb : TS} {lo n : Int} (hi : EA t ρ [.int lo, .int n]) (hlo : 0 ≤ lo ∧ lo < 16777216) (h1 : -(2 ^ 62) ≤ n) (hl : n < 16777216) (I : Nat → Rho → Prop) (h0 : I 0 ρ)
    (hs : ∀ (k : Nat) ρ', lo + (k : Int) < n → I k ρ' → ∃ ρ2, TS_ g (.int (lo + (k : Int))) ρ' ρ2 ∧ SO E tb ρ2 (Turn (I (k + 1)) P)) (hd : ∀ ρ', I (n - lo).toNat ρ' → P (.nxt ρ')) : SO E (tFor (iRng2 t) g tb) ρ P :=
  so_for (en := PyData.int) (ei_rng2 hi (by omega) h1 (by omega)) I h0 (fun k x ρ' hx hI => by
    have hk := (List.getElem?_eq_some_iff.mp hx).1
    rw [rg_len] at hk
    rw [rg_get hk] at hx
    cases hx
    exact hs k ρ' (by omega) hI) (by rw [rg_len]; exact hd)
theorem so_forL {E : XK} {P : Out → Prop} {tb : TS} {α : Type} {xs : List α} {en : α → PyData} (hi : ED tl ρ (.list (xs.map en))) (I : Nat → Rho → Prop) (h0 : I 0 ρ)
    (hs : ∀ (n : Nat) x ρ', xs[n]? = some x → I n ρ' → ∃ ρ2, TS_ g (en x) ρ' ρ2 ∧ SO E tb ρ2 (Turn (I (n + 1)) P)) (hd : ∀ ρ', I xs.length ρ' → P (.nxt ρ')) : SO E (tFor (iList K tl) g tb) ρ P := so_for (ei_list hi) I h0 hs hd
end
/-! ### statements in sequence -/
section
variable {E : XK} {ρ : Rho} {P : Out → Prop} {t u : TS} {te ta tb : TE} {tt : TT} {d : PyData} {ds : List PyData} {i j : Nat} {K : PySem.W.Frag}
theorem sq_asg (h : ED te ρ d) (k : SO E u (ρ.set i (.dat d)) P) : SO E (tSeq (tAsg te (gName i)) u) ρ P := so_seq (so_asg h k)
theorem sq_asgS (h : ED te (fz ρ) d) (hd : Sca d) (k : SO E u (ρ.set i (.dat d)) P) : SO E (tSeq (tAsg te (gName i)) u) ρ P := so_seq (so_asgS h hd k)
theorem sq_asgN (h : EN te ρ ds) (k : SO E u (ρ.set i (.own ds)) P) : SO E (tSeq (tAsg te (gName i)) u) ρ P := so_seq (so_asgN h k)
theorem sq_asg2 {a b : PyData} (h : ED te ρ (.tuple [a, b])) (k : SO E u ((ρ.set i (.dat a)).set j (.dat b)) P) : SO E (tSeq (tAsg te (gTup K 2 (gCons (gName i) (gCons (gName j) gNil)))) u) ρ P := so_seq (so_asg2 h k)
theorem sq_par {t2 : TA} {a b : PyData} (h : EA t2 ρ [a, b]) (k : SO E u ((ρ.set i (.dat a)).set j (.dat b)) P) : SO E (tSeq (tPar i j t2) u) ρ P := so_seq (so_par h k)
/-- if c: return .. -/
theorem sq_no (h : ET tt (fz ρ) false) (k : SO E u ρ P) : SO E (tSeq (tIfS tt t tNext) u) ρ P := so_seq (so_if h (fun z => Bool.noConfusion z) (fun _ => so_next k))
theorem sq_if {b : Bool} {w : TS} (h : ET tt (fz ρ) b) (h1 : b = true → SO E t ρ (After E u P)) (h2 : b = false → SO E w ρ (After E u P)) : SO E (tSeq (tIfS tt t w) u) ρ P := so_seq (so_if h h1 h2)
theorem sq_app (q : ρ[i]? = some (Sl.own ds)) (h : ED te ρ d) (hl : ds.length < 16777216) (k : SO E u (ρ.set i (.own (ds ++ [d]))) P) : SO E (tSeq (tDrop (tBM K "list" rAppend (tVar i) (tCons te tNil))) u) ρ P := so_seq (so_app q h (size_lt hl) k)
theorem sq_appS (q : ρ[i]? = some (Sl.own ds)) (h : ED te (fz ρ) d) (hd : Sca d) (hl : ds.length < 16777216) (k : SO E u (ρ.set i (.own (ds ++ [d]))) P) : SO E (tSeq (tDrop (tBM K "list" rAppend (tVar i) (tCons te tNil))) u) ρ P := so_seq (so_appS q h hd (size_lt hl) k)
theorem sq_callX {ta : TA} {r : Rs} {rel : List PyData → Rs → Prop} (h : EA ta (fz ρ) ds) (hr : rel ds r) (h1 : ∀ d, r = .ok d → SO E u ρ P) (h2 : ∀ ds, r = .nw ds → SO E u ρ P) (h3 : ∀ C, r = .er C → P (.exc C)) :
    SO E (tSeq (tDrop (tCallS (PrS rel) (WE fun cls d _ H => E cls d H) ta)) u) ρ P := so_seq (so_callX h hr h1 h2 h3)
theorem sq_forR1 {t1 : TA} {tb : TS} {g : TG} {n : Int} (hi : EA t1 ρ [.int n]) (h1 : -(2 ^ 62) ≤ n) (hl : n < 16777216) (I : Nat → Rho → Prop) (h0 : I 0 ρ)
    (hs : ∀ (k : Nat) ρ', (k : Int) < n → I k ρ' → ∃ ρ2, TS_ g (.int (k : Int)) ρ' ρ2 ∧ SO E tb ρ2 (Turn (I (k + 1)) (After E u P))) (hd : ∀ ρ', I n.toNat ρ' → SO E u ρ' P) : SO E (tSeq (tFor (iRng1 t1) g tb) u) ρ P := so_seq (so_forR1 hi h1 hl I h0 hs hd)
theorem sq_forR2 {t1 : TA} {tb : TS} {g : TG} {lo n : Int} (hi : EA t1 ρ [.int lo, .int n]) (hlo : 0 ≤ lo ∧ lo < 16777216) (h1 : -(2 ^ 62) ≤ n) (hl : n < 16777216) (I : Nat → Rho → Prop) (h0 : I 0 ρ)
    (hs : ∀ (k : Nat) ρ', lo + (k : Int) < n → I k ρ' → ∃ ρ2, TS_ g (.int (lo + (k : Int))) ρ' ρ2 ∧ SO E tb ρ2 (Turn (I (k + 1)) (After E u P))) (hd : ∀ ρ', I (n - lo).toNat ρ' → SO E u ρ' P) : SO E (tSeq (tFor (iRng2 t1) g tb) u) ρ P := so_seq (so_forR2 hi hlo h1 hl I h0 hs hd)
theorem sq_forL {tl : TE} {tb : TS} {g : TG} {α : Type} {xs : List α} {en : α → PyData} (hi : ED tl ρ (.list (xs.map en))) (I : Nat → Rho → Prop) (h0 : I 0 ρ)
    (hs : ∀ (n : Nat) x ρ', xs[n]? = some x → I n ρ' → ∃ ρ2, TS_ g (en x) ρ' ρ2 ∧ SO E tb ρ2 (Turn (I (n + 1)) (After E u P))) (hd : ∀ ρ', I xs.length ρ' → SO E u ρ' P) : SO E (tSeq (tFor (iList K tl) g tb) u) ρ P := so_seq (so_forL hi I h0 hs hd)
theorem sq_while {c : TT} {tb : TS} (I : Nat → Rho → Prop) (m0 : Nat) (h0 : I m0 ρ) (hs : ∀ m ρ', I m ρ' → ∃ b, ET c (fz ρ') b ∧ (b = true → SO E tb ρ' (Turn (fun r => ∃ m', m' < m ∧ I m' r) (After E u P))) ∧ (b = false → SO E u ρ' P)) :
    SO E (tSeq (tWhile c tb) u) ρ P := so_seq (so_while I m0 h0 hs)
/-- a check that answers None or raises -/
theorem sq_check {ta : TA} {b : Bool} {C : Addr} {rel : List PyData → Rs → Prop} (h : EA ta (fz ρ) ds) (hr : rel ds (if b then .ok .none else .er C)) (h1 : b = true → SO E u ρ P) (h3 : b = false → P (.exc C)) :
    SO E (tSeq (tDrop (tCallS (PrS rel) (WE fun cls d _ H => E cls d H) ta)) u) ρ P := by
  cases b with
  | true => exact sq_callX h hr (fun _ _ => h1 rfl) (fun _ z => by cases z) (fun _ z => by cases z)
  | false => exact sq_callX h hr (fun _ z => by cases z) (fun _ z => by cases z) (fun C' z => by cases z; exact h3 rfl)
end
/-! ### the same rules, the written part K named -/
section
variable {X : Cx} {K : PySem.W.Frag}
theorem ix_seqK (h : X.K = K) : IxR X (rIx K) := h ▸ ix_seq
theorem op_addK (h : X.K = K) : OpR X (binaryOp .Add) (rAddA K) := h ▸ op_addA
theorem op_eqK (h : X.K = K) (hu : X.A.units + 64 < cLine) : OpR X (compareOp .Eq) (rEqD K) := h ▸ op_eqD hu
theorem op_neK (h : X.K = K) (hu : X.A.units + 64 < cLine) : OpR X (compareOp .NotEq) (rNeD K) := h ▸ op_neD hu
theorem op_inK (h : X.K = K) (hu : X.A.units + 65 < cLine) : OpR X (compareOp .In) (rInD K) := h ▸ op_inD hu
theorem op_notInK (h : X.K = K) (hu : X.A.units + 65 < cLine) : OpR X (compareOp .NotIn) (rNotInD K) := h ▸ op_notInD hu
theorem cb_lenK (h : X.K = K) : CallR X (.builtin "len") (rLenA K) := h ▸ cb_len
theorem cb_maxK (h : X.K = K) (hc : X.calm = true) : CallR X (.builtin "max") (rMaxA K) := h ▸ cb_max hc
theorem cb_minK (h : X.K = K) (hc : X.calm = true) : CallR X (.builtin "min") (rMinA K) := h ▸ cb_min hc
theorem cb_sumK (h : X.K = K) (hc : X.calm = true) : CallR X (.builtin "sum") (rSum K) := h ▸ cr_sum hc
theorem cb_allK (h : X.K = K) (hc : X.calm = true) : CallR X (.builtin "all") (rAll K) := h ▸ cr_all hc
theorem cb_listK (h : X.K = K) : CallR X (.type "list") (rListA K) := h ▸ cb_list
theorem cb_tupK (h : X.K = K) : CallR X (.type "tuple") (rTupA K) := h ▸ cb_tup
theorem cb_srtK (h : X.K = K) : CallR X (.builtin "sorted") (rSrtA K) := h ▸ cb_srt
theorem cb_isiK (h : X.K = K) : CallR X (.builtin "isinstance") (rIsi K) := h ▸ call_isi
theorem sl_listK (h : X.K = K) : SlR X (rSlL K) := h ▸ sl_list
theorem mt_indexK (h : X.K = K) (hu : X.A.units + 65 < cLine) : MtR X "list.index" (rIndexD K) := h ▸ mt_indexD hu
theorem pi_listK {tg l : Expr} {tl : TE} (h : X.K = K) (hl : PE X l tl) : PI X tg l (iList K tl) := h ▸ pi_list hl
theorem pi_tupK {tg l : Expr} {tl : TE} (h : X.K = K) (hl : PE X l tl) : PI X tg l (iTup K tl) := h ▸ pi_tup hl
theorem pe_revK {e : Expr} {te : TE} {k : Nat} {p1 p2 p3 pos : Pos} (h : X.K = K) (he : PE X e te) : PE X (.Subscript e (.Slice none none (some (.UnaryOp .USub (.Constant (.int 1) k p1) p2)) p3) pos) (tRevL K te) := h ▸ pe_revL he
theorem pg_tupK {es : List Expr} {k : Nat} {t : TGs} {n : Nat} {pos : Pos} (h : X.K = K) (hc : X.calm = true) (hg : PGs X es t) (hn : (assignEach es X.env).length = n := by rfl)
    (hst : (assignEach es X.env).findIdx? (·.1) = none := by rfl) : PG X (.Tuple es k pos) (gTup K n t) := h ▸ pg_tup hc hg hn hst
theorem pe_bmK {o e : Expr} {es : List Expr} {to : TE} {t : TA} {name : Str} {apos cpos : Pos} {T id : String} {r : V → List V → Hp → VK → Prop} (h : X.K = K) (pa : PlainAttrs T) (slot : Slot T name id)
    (hty : typeOf (.builtin id) = pure (.type "method_descriptor")) (hm : MtR X id r) (ho : PE X o to) (ha : PA X (e :: es) t) (hb : attributeBase o name X.env (eval o X.env) = eval o X.env := by rfl)
    (hf : ((backTo cpos (starEach (e :: es) X.env)).all (fun x => !x.1) && (backToKw cpos (keywordEach [] X.env)).all (fun x => x.1.isSome) && decide ((e :: es).length + ([] : List Keyword).length + (if ([] : List Keyword).isEmpty then 0 else 1) < 30)) = true := by rfl)
    (hl : (apos.endLine == cpos.line) = true := by rfl) (hs : starEach (e :: es) X.env = (false, eval e X.env) :: starEach es X.env := by rfl)
    (hp : (backTo cpos (starEach es X.env)).any (·.1) = false := by rfl) : PE X (.Call (.Attribute o name apos) (e :: es) [] cpos) (tBM K T r to t) := h ▸ pe_bm pa slot hty hm ho ha hb hf hl hs hp
end
end Dl

namespace Dl
open PySem L2 Rf
/-! ### the script's draws: a list [numbers, counter], changed by each draw -/
def DrawI (v : V) (h : Hp) : Prop := ∃ (dr nu : Addr) (ms : List Int) (c : Int), v = .ref dr ∧ dr ≠ nu ∧ ms ≠ [] ∧ ms.length ≤ 63 ∧ h = upd (one dr (.lst [.ref nu, .int c])) nu (.lst (ms.map V.int))
/-- the draws v0, at addresses of h0 -/
def DrawR (v0 : V) (h0 : Hp) : Res := ⟨fun v _ h => v = v0 ∧ DrawI v h ∧ ∀ a, h a ≠ none → h0 a ≠ none, fun _ _ _ _ _ x => x⟩
/-- what a def with the draws as its first argument promises: some d with post d -/
def PrD (rel : List PyData → (PyData → Prop) → Prop) : Sp := fun vs H Q E => ∃ G h v ws ds post, vs = v :: ws ∧ DrawI v h ∧ Same h H ∧ (∀ a, h a ≠ none → G a = none) ∧ Same G H ∧ Dvs G ws ds ∧ rel ds post ∧
  ∀ d u G' H' h', post d → Fm (fun a => h a ≠ none) G H G' H' → DrawI v h' → (∀ a, h' a ≠ none → h a ≠ none) → Same h' H' → Dv G' u d → Q u H'
theorem prd_len {rel : List PyData → (PyData → Prop) → Prop} {vs : List V} {H : Hp} {Q : VK} {E : XK} {n : Nat} (h : PrD rel vs H Q E) (hl : ∀ ds p, rel ds p → ds.length = n) : vs.length = n + 1 := by
  obtain ⟨G, h, v, ws, ds, post, rfl, _, _, _, _, hv, hr, _⟩ := h
  rw [List.length_cons, hv.len, hl ds post hr]
/-- an expression that may draw -/
def EX (te : TE) (ρ : Rho) (P : PyData → Prop) : Prop := ∀ Pv G0 H0 G H σ, Sta Pv G0 H0 G H σ ρ → ∀ Q : VK, (∀ v d G' H', P d → Same G G' → Sta Pv G0 H0 G' H' σ ρ → Dv G' v d → Q v H') → te σ H Q
def EXA (ta : TA) (ρ : Rho) (P : List PyData → Prop) : Prop := ∀ Pv G0 H0 G H σ, Sta Pv G0 H0 G H σ ρ → ∀ Q : List V → Hp → Prop, (∀ vs ds G' H', P ds → Same G G' → Sta Pv G0 H0 G' H' σ ρ → Dvs G' vs ds → Q vs H') → ta σ H Q
section
variable {E : XK} {ρ : Rho} {te ta tb : TE} {P P1 P2 : PyData → Prop} {d : PyData} {ds : List PyData} {K : PySem.W.Frag} {r : R2} {i : Nat} {t u : TS} {R : Out → Prop}
theorem EX.imp (h : EX te ρ P1) (k : ∀ d, P1 d → P d) : EX te ρ P := fun Pv G0 H0 G H σ s Q q => h Pv G0 H0 G H σ s Q fun v d G' H' p => q v d G' H' (k d p)
theorem ex_ed (h : ED te ρ d) : EX te ρ (· = d) := fun Pv G0 H0 G H σ s Q q => h G H σ s.vw Q fun v G' H' x hv => q v d G' H' rfl x.g (s.grow x) hv
theorem ex_edS (h : ED te (fz ρ) d) (hd : Sca d) : EX te ρ (· = d) := fun Pv G0 H0 G H σ s Q q => h H H σ s.fz Q fun v G' H' x hv => q v d G H' rfl (.refl _) (s.more x.h) (hd.dv hv)
theorem ex_op (ha : EX ta ρ P1) (hb : ∀ d1, P1 d1 → EX tb ρ P2) (hr : ∀ d1 d2, P1 d1 → P2 d2 → ∃ d, P d ∧ RD r d1 d2 d) : EX (tOp r ta tb) ρ P := fun Pv G0 H0 G H σ s Q q =>
  ha Pv G0 H0 G H σ s _ fun v d1 G1 H1 p1 e1 s1 h1 => hb d1 p1 Pv G0 H0 G1 H1 σ s1 _ fun w d2 G2 H2 p2 e2 s2 h2 => by
    obtain ⟨d, pd, hd⟩ := hr d1 d2 p1 p2
    exact hd G2 H2 v w s2.fm.e (h1.up e2) h2 Q fun z G3 H3 x3 h3 => q z d G3 H3 pd ((e1.trans e2).trans x3.g) (s2.grow x3) h3
theorem exa_nil : EXA tNil ρ (· = []) := fun Pv G0 H0 G H σ s Q q => q [] [] G H rfl (.refl _) s .nil
theorem exa_cons {tr : TA} {PA : List PyData → Prop} (h : EX ta ρ P1) (hr : ∀ d, P1 d → EXA tr ρ PA) : EXA (tCons ta tr) ρ (fun l => ∃ d ds, l = d :: ds ∧ P1 d ∧ PA ds) := fun Pv G0 H0 G H σ s Q q =>
  h Pv G0 H0 G H σ s _ fun v d G1 H1 p1 e1 s1 h1 => hr d p1 Pv G0 H0 G1 H1 σ s1 _ fun vs ds G2 H2 p2 e2 s2 h2 => q _ (d :: ds) G2 H2 ⟨d, ds, rfl, p1, p2⟩ (e1.trans e2) s2 (.cons (h1.up e2) h2)
theorem exa_ea {t : TA} (h : EA t ρ ds) : EXA t ρ (· = ds) := fun Pv G0 H0 G H σ s Q q => h G H σ s.vw Q fun vs G' H' x hv => q vs ds G' H' rfl x.g (s.grow x) hv
theorem EXA.imp {t : TA} {P1 P2 : List PyData → Prop} (h : EXA t ρ P1) (k : ∀ d, P1 d → P2 d) : EXA t ρ P2 := fun Pv G0 H0 G H σ s Q q => h Pv G0 H0 G H σ s Q fun v d G' H' p => q v d G' H' (k d p)
/-- a def called with the draws -/
theorem ex_call {v0 : V} {h0 : Hp} {t : TA} {rel : List PyData → (PyData → Prop) → Prop} {PA : List PyData → Prop} (q : ρ[i]? = some (Sl.prv (DrawR v0 h0))) (h : EXA t ρ PA) (hr : ∀ ds, PA ds → ∃ post, rel ds post ∧ ∀ d, post d → P d) : EX (tCall (PrD rel) [] E (tCons (tVar i) t)) ρ P := fun Pv G0 H0 G H σ s Q k => by
  obtain ⟨_, _, hs0, p0⟩ := id s
  obtain ⟨v, hv, _⟩ := p0.pv i _ q
  refine ⟨v, hv, h Pv G0 H0 G H σ s _ fun ws ds G1 H1 pa e1 s1 hw => ?_⟩
  obtain ⟨post, hrel, himp⟩ := hr ds pa
  obtain ⟨fm, vw, hs, p⟩ := s1
  obtain ⟨v', hv', hI⟩ := p.pv i _ q
  rw [hv] at hv'; cases hv'
  obtain ⟨ev0, hI, hdom0⟩ : v = v0 ∧ DrawI v (hs i) ∧ ∀ a, hs i a ≠ none → h0 a ≠ none := hI
  refine ⟨G1, hs i, v, ws, ds, post, by rw [List.append_nil], hI, fun a o z => (p.hi i a o z).1, fun a z => ?_, fm.e, hw, hrel, fun d u G' H' h' pd m hI' hdom hsub hu => ?_⟩
  · cases e : hs i a with
    | none => exact absurd e z
    | some o => exact (p.hi i a o e).2.1
  · have inH : ∀ (j : Nat) a, hs j a ≠ none → H1 a ≠ none := fun j a z => by
      cases e : hs j a with
      | none => exact absurd e z
      | some o => rw [(p.hi j a o e).1]; exact Option.some_ne_none _
    have inG : ∀ (j : Nat) a, hs j a ≠ none → G1 a = none := fun j a z => by
      cases e : hs j a with
      | none => exact absurd e z
      | some o => exact (p.hi j a o e).2.1
    have inP : ∀ (j : Nat) a, hs j a ≠ none → Pv a ∨ H0 a = none := fun j a z => by
      cases e : hs j a with
      | none => exact absurd e z
      | some o => exact (p.hi j a o e).2.2
    refine k u d G' H' (himp d pd) (e1.trans m.g) ⟨⟨fm.g.trans m.g, fun a o np z => m.h a o (fun nz => ?_) (fm.h a o np z), fun a z => m.k a (fm.k a z), m.e, fun a z1 z2 => m.f a (fm.f a z1 z2) (fm.k a z2)⟩,
      ⟨m.e, vw.ln, fun j d' z => ?_⟩, fun j => if i = j then h' else hs j, fun j es z => ?_, fun j R' z => ?_, fun j a o z => ?_, fun j l a hjl z => ?_⟩ hu
    · rcases inP i a nz with w | w
      · exact np w
      · rw [z] at w; cases w
    · obtain ⟨v1, a1, b1⟩ := vw.dt j d' z
      exact ⟨v1, a1, b1.up m.g⟩
    · have hj : i ≠ j := fun e => by rw [e, z] at q; cases q
      obtain ⟨o, xs, a1, b1, c1, d1⟩ := p.ow j es z
      exact ⟨o, xs, a1, by show (if i = j then _ else _) = _; rw [if_neg hj]; exact b1, c1.up m.g, d1⟩
    · by_cases hj : i = j
      · subst hj
        rw [q] at z; cases z
        exact ⟨v, hv, by show (DrawR v0 h0).inv v G' (if i = i then h' else _); rw [if_pos rfl]; exact ⟨ev0, hI', fun a z => hdom0 a (hdom a z)⟩⟩
      · obtain ⟨v1, a1, b1⟩ := p.pv j R' z
        exact ⟨v1, a1, by show R'.inv v1 G' (if i = j then _ else _); rw [if_neg hj]; exact R'.mono _ _ _ _ m.g b1⟩
    · have z : (if i = j then h' else hs j) a = some o := z
      by_cases hj : i = j
      · rw [if_pos hj] at z
        have hd : hs i a ≠ none := hdom a (by rw [z]; exact Option.some_ne_none _)
        exact ⟨hsub a o z, m.f a (inG i a hd) (inH i a hd), inP i a hd⟩
      · rw [if_neg hj] at z
        have hz : hs j a ≠ none := by rw [z]; exact Option.some_ne_none _
        exact ⟨m.h a o (fun nz => nz (p.dj j i a (Ne.symm hj) hz)) (p.hi j a o z).1, m.f a (inG j a hz) (inH j a hz), inP j a hz⟩
    · have z : (if i = j then h' else hs j) a ≠ none := z
      show (if i = l then h' else hs l) a = none
      by_cases hl : i = l
      · rw [if_pos hl]
        have hj : i ≠ j := fun e => hjl (e.symm.trans hl)
        rw [if_neg hj] at z
        cases e : h' a with
        | none => rfl
        | some o => exact absurd (p.dj j i a (Ne.symm hj) z) (hdom a (by rw [e]; exact Option.some_ne_none _))
      · rw [if_neg hl]
        by_cases hj : i = j
        · rw [if_pos hj] at z; exact p.dj i l a hl (hdom a z)
        · rw [if_neg hj] at z; exact p.dj j l a hjl z
/-! statements -/
theorem so_asgX (h : EX te ρ P) (hp : ∀ d, P d → R (.nxt (ρ.set i (.dat d)))) : SO E (tAsg te (gName i)) ρ R := fun Pv G0 H0 G H σ D s k =>
  h Pv G0 H0 G H σ s _ fun v d G' H' p e s' hv => k.nx _ _ G' H' (hp d p) e (s'.set hv)
theorem sq_asgX (h : EX te ρ P) (hp : ∀ d, P d → SO E u (ρ.set i (.dat d)) R) : SO E (tSeq (tAsg te (gName i)) u) ρ R := so_seq (so_asgX h hp)
theorem so_retE (h : EX te ρ P) (hp : ∀ d, P d → R (.ret ρ d)) : SO E (tRet te) ρ R := fun Pv G0 H0 G H σ D s k =>
  h Pv G0 H0 G H σ s _ fun v d G' H' p e s' hv => k.rt _ _ d v G' H' (hp d p) e s' hv
theorem so_ifX {tt : TT} {w : TS} {r : R2} (h : EX (tOp r ta tb) ρ (fun d => ∃ b, d = .bool b)) (h1 : SO E t ρ R) (h2 : SO E w ρ R) : SO E (tIfS (tTest (tOp r ta tb)) t w) ρ R := fun Pv G0 H0 G H σ D s k =>
  h Pv G0 H0 G H σ s _ fun v d G' H' p e s' hv => by
    obtain ⟨b, rfl⟩ := p
    cases hv
    refine ⟨b, rfl, ?_⟩
    cases b with
    | true => exact iteT (h1 Pv G0 H0 G' H' σ D s' (k.up e))
    | false => exact iteF (h2 Pv G0 H0 G' H' σ D s' (k.up e))
/-- x = [e] -/
theorem so_asgL (h : EX te ρ P) (hp : ∀ d, P d → R (.nxt (ρ.set i (.own [d])))) : SO E (tAsg (tLst (tCons te tNil)) (gName i)) ρ R := fun Pv G0 H0 G H σ D s k =>
  h Pv G0 H0 G H σ s _ fun v d G' H' p e s' hv => ⟨size_of (by show 1 ≤ 16777216; decide), fun l hl => k.nx _ _ G' _ (hp d p) e (s'.setOwn (.hid s'.fm.e hl) hl (s'.fm.e.free hl) upd_same (.cons hv .nil))⟩
theorem sq_asgL (h : EX te ρ P) (hp : ∀ d, P d → SO E u (ρ.set i (.own [d])) R) : SO E (tSeq (tAsg (tLst (tCons te tNil)) (gName i)) u) ρ R := so_seq (so_asgL h hp)
theorem so_appX (q : ρ[i]? = some (Sl.own ds)) (h : EX te ρ P) (hl : ds.length < 16777216) (hp : ∀ d, P d → R (.nxt (ρ.set i (.own (ds ++ [d]))))) : SO E (tDrop (tBM K "list" rAppend (tVar i) (tCons te tNil))) ρ R := fun Pv G0 H0 G H σ D s k => by
  obtain ⟨o, xs, a1, a2, a3, a4, a5, _⟩ := s.mut (ds' := ds) q
  refine ⟨_, a1, .inl ⟨rfl, _, SqL.of a2⟩, h Pv G0 H0 G H σ s _ fun v d G' H' p e s' hv => ?_⟩
  obtain ⟨o', xs', b1, b2, b3, b4, b5, b6⟩ := s'.mut (ds' := ds ++ [d]) q
  rw [a1] at b1; cases b1
  exact ⟨o, xs', v, rfl, rfl, b2, by rw [b3.len]; exact size_lt hl, k.nx _ _ G' _ (hp d p) e (b6 _ (b3.app (.cons hv .nil)))⟩
theorem ex_if {r : R2} {t1 t2 : TE} (h : EX (tOp r ta tb) ρ (fun d => ∃ b, d = .bool b)) (h1 : EX t1 ρ P) (h2 : EX t2 ρ P) : EX (tIf (tTest (tOp r ta tb)) t1 t2) ρ P := fun Pv G0 H0 G H σ s Q q =>
  h Pv G0 H0 G H σ s _ fun v d G' H' p e s' hv => by
    obtain ⟨b, rfl⟩ := p
    cases hv
    refine ⟨b, rfl, ?_⟩
    cases b with
    | true => exact iteT (h1 Pv G0 H0 G' H' σ s' Q fun v2 d2 G2 H2 p2 e2 s2 h2 => q v2 d2 G2 H2 p2 (e.trans e2) s2 h2)
    | false => exact iteF (h2 Pv G0 H0 G' H' σ s' Q fun v2 d2 G2 H2 p2 e2 s2 h2 => q v2 d2 G2 H2 p2 (e.trans e2) s2 h2)
/-- for k in range(e), e drawn -/
theorem so_forX {g : TG} {tb : TS} {B : Int → Prop} (hi : EX te ρ (fun d => ∃ n, d = .int n ∧ B n)) (hB : ∀ n, B n → 0 ≤ n ∧ n < 16777216) (I : Int → Nat → Rho → Prop) (h0 : ∀ n, B n → I n 0 ρ)
    (hs : ∀ n, B n → ∀ (k : Nat) ρ', (k : Int) < n → I n k ρ' → ∃ ρ2, TS_ g (.int (k : Int)) ρ' ρ2 ∧ SO E tb ρ2 (Turn (I n (k + 1)) R)) (hd : ∀ n, B n → ∀ ρ', I n n.toNat ρ' → R (.nxt ρ')) : SO E (tFor (iRng1 (tCons te tNil)) g tb) ρ R := fun Pv G0 H0 G H σ D s k =>
  hi Pv G0 H0 G H σ s _ fun v d G1 H1 p e s1 hv => by
    obtain ⟨n, rfl, hn⟩ := p
    cases hv
    have hb := hB n hn
    have z : SO E (tFor (fun _ H R => R (Itr 0 n.toNat) H) g tb) ρ R := so_for (en := PyData.int) (xs := rg 0 n.toNat) (fun G H σ w R r => r _ G H (.refl w.e) wk_rng) (I n) (h0 n hn) (fun j x ρ' hx hI => by
      have hk := (List.getElem?_eq_some_iff.mp hx).1
      rw [rg_len] at hk
      rw [rg_get hk] at hx
      cases hx
      rw [Int.zero_add]
      exact hs n hn j ρ' (by omega) hI) (by rw [rg_len]; exact hd n hn)
    exact ⟨n, rfl, by omega, by omega, z Pv G0 H0 G1 H1 σ D s1 (k.up e)⟩
theorem sq_forX {g : TG} {tb : TS} {B : Int → Prop} (hi : EX te ρ (fun d => ∃ n, d = .int n ∧ B n)) (hB : ∀ n, B n → 0 ≤ n ∧ n < 16777216) (I : Int → Nat → Rho → Prop) (h0 : ∀ n, B n → I n 0 ρ)
    (hs : ∀ n, B n → ∀ (k : Nat) ρ', (k : Int) < n → I n k ρ' → ∃ ρ2, TS_ g (.int (k : Int)) ρ' ρ2 ∧ SO E tb ρ2 (Turn (I n (k + 1)) (After E u R))) (hd : ∀ n, B n → ∀ ρ', I n n.toNat ρ' → SO E u ρ' R) : SO E (tSeq (tFor (iRng1 (tCons te tNil)) g tb) u) ρ R :=
  so_seq (so_forX hi hB I h0 hs hd)
/-- the body of a def with the draws -/
theorem draw_ok {N : List Str} {vs : List V} {G H h : Hp} {v : V} {ws : List V} {Q : VK} {post : PyData → Prop} (hvs : vs = v :: ws) (hI : DrawI v h) (hsub : Same h H) (hdis : ∀ a, h a ≠ none → G a = none) (e : Same G H) (hw : Dvs G ws ds)
    (q : ∀ d u G' H' h', post d → Fm (fun a => h a ≠ none) G H G' H' → DrawI v h' → (∀ a, h' a ≠ none → h a ≠ none) → Same h' H' → Dv G' u d → Q u H')
    (hb : SO E t (.prv (DrawR v h) :: (ds.map Sl.dat ++ List.replicate (N.length - (ds.length + 1)) Sl.un)) (fun o => (∃ r d, o = .ret (.prv (DrawR v h) :: r) d ∧ post d) ∨ ∃ r es, o = .new (.prv (DrawR v h) :: r) es ∧ post (.list es))) :
    t { nx := fun _ H' => Q .non H', rt := Q } (L2.start N vs) H := by
  subst hvs
  have hl := hw.len
  have gd : ∀ (i : Nat) (z : Sl), (Sl.prv (DrawR v h) :: (ds.map Sl.dat ++ List.replicate (N.length - (ds.length + 1)) Sl.un))[i]? = some z → (i = 0 ∧ z = .prv (DrawR v h)) ∨ z = .un ∨ ∃ j d, i = j + 1 ∧ ds[j]? = some d ∧ z = .dat d := fun i z q => by
    cases i with
    | zero => simp at q; exact .inl ⟨rfl, q.symm⟩
    | succ j =>
      rw [List.getElem?_cons_succ] at q
      by_cases hi : j < ds.length
      · rw [List.getElem?_append_left (by simpa using hi), List.getElem?_map, List.getElem?_eq_getElem hi] at q
        cases q
        exact .inr (.inr ⟨j, _, rfl, List.getElem?_eq_getElem hi, rfl⟩)
      · rw [List.getElem?_append_right (by simpa using hi), List.getElem?_replicate] at q
        split at q
        · cases q; exact .inr (.inl rfl)
        · cases q
  have s : Sta (fun a => h a ≠ none) G H G H (L2.start N (v :: ws)) (.prv (DrawR v h) :: (ds.map Sl.dat ++ List.replicate (N.length - (ds.length + 1)) Sl.un)) := by
    refine ⟨.refl e, ⟨e, ?_, fun i d z => ?_⟩, fun i => if i = 0 then h else fun _ => none, fun i es z => ?_, fun i R z => ?_, fun i a o z => ?_, fun i j a hij z => ?_⟩
    · unfold L2.start
      simp only [List.length_append, List.length_map, List.length_replicate, List.length_cons, hl]
      omega
    · rcases gd i _ z with ⟨_, w⟩ | w | ⟨j, d', rfl, w1, w2⟩
      · cases w
      · cases w
      · cases w2
        obtain ⟨u, a, b⟩ := hw.get w1
        refine ⟨u, ?_, b⟩
        unfold L2.start
        rw [List.map_cons, List.cons_append, List.getElem?_cons_succ, List.getElem?_append_left (by rw [List.length_map]; exact (List.getElem?_eq_some_iff.mp a).1), List.getElem?_map, a]; rfl
    · rcases gd i _ z with ⟨_, w⟩ | w | ⟨j, d', _, _, w⟩ <;> cases w
    · rcases gd i _ z with ⟨rfl, w⟩ | w | ⟨j, d', _, _, w⟩
      · cases w
        refine ⟨v, ?_, ?_⟩
        · unfold L2.start; rw [List.map_cons, List.cons_append]; rfl
        · show (DrawR v h).inv v G (if 0 = 0 then h else _); rw [if_pos rfl]; exact ⟨rfl, hI, fun _ z => z⟩
      · cases w
      · cases w
    · have z : (if i = 0 then h else fun _ => none) a = some o := z
      by_cases hi : i = 0
      · rw [if_pos hi] at z
        exact ⟨hsub a o z, hdis a (by rw [z]; exact Option.some_ne_none _), .inl (by show h a ≠ none; rw [z]; exact Option.some_ne_none _)⟩
      · rw [if_neg hi] at z; cases z
    · have z : (if i = 0 then h else fun _ => none) a ≠ none := z
      show (if j = 0 then h else fun _ => none) a = none
      by_cases hj : j = 0
      · rw [if_neg (fun w => hij (w.trans hj.symm))] at z; exact absurd rfl z
      · rw [if_neg hj]
  have fin : ∀ {r : Rho} {σ : St} {G' H' : Hp}, Sta (fun a => h a ≠ none) G H G' H' σ (.prv (DrawR v h) :: r) → ∃ h', DrawI v h' ∧ (∀ a, h' a ≠ none → h a ≠ none) ∧ Same h' H' := fun {r σ G' H'} s => by
    obtain ⟨fm, vw, hs, p⟩ := s
    obtain ⟨u, a, b⟩ := p.pv 0 (DrawR v h) rfl
    obtain ⟨rfl, b1, b2⟩ : u = v ∧ DrawI u (hs 0) ∧ ∀ a, hs 0 a ≠ none → h a ≠ none := b
    exact ⟨hs 0, b1, b2, fun a o z => (p.hi 0 a o z).1⟩
  refine hb _ _ _ _ _ _ _ s ⟨fun ρ σ G' H' p _ s => ?_, fun ρ σ G' H' p _ s => ?_, fun ρ σ G' H' p _ s => ?_, fun ρ σ d u G' H' p _ s hu => ?_, fun ρ σ es p xs G' H' z _ s h1 h2 h3 h4 => ?_, fun C G' H' p m => ?_⟩
  · rcases p with ⟨_, _, z, _⟩ | ⟨_, _, z, _⟩ <;> cases z
  · rcases p with ⟨_, _, z, _⟩ | ⟨_, _, z, _⟩ <;> cases z
  · rcases p with ⟨_, _, z, _⟩ | ⟨_, _, z, _⟩ <;> cases z
  · rcases p with ⟨_, _, z, pd⟩ | ⟨_, _, z, _⟩
    · cases z
      obtain ⟨h', i1, i2, i3⟩ := fin s
      exact q d u G' H' h' pd s.fm i1 i2 i3 hu
    · cases z
  · rcases z with ⟨_, _, z, _⟩ | ⟨_, _, z, pd⟩
    · cases z
    · cases z
      obtain ⟨h', i1, i2, i3⟩ := fin s
      refine q _ (.ref p) (upd G' p (.lst xs)) H' h' pd ⟨s.fm.g.trans (same_new h2), s.fm.h, s.fm.k, same_in s.fm.e h3, fun a z1 z2 => ?_⟩ i1 i2 i3 (.lst upd_same (h4.up (same_new h2)))
      rw [upd_ne (ne_tr h1 z2)]; exact s.fm.f a z1 z2
  · rcases p with ⟨_, _, z, _⟩ | ⟨_, _, z, _⟩ <;> cases z
end
end Dl

set_option maxHeartbeats 8000000
namespace Dl
open PySem L2 Rf
/-! ### sorted(set(xs)), xs a list of ints -/
section
open PySem.W PyProof.Rows
variable {P : Program} {w : World} {A : Around} {E : Value → Shared → Prop} {s : Shared}
abbrev emptySet (w : World) : Obj := { cls := .type "set", dict := none, data := .set #[] 0 (.fresh 0 0 (!w.params.followText "set-order")) }
theorem call_set_lstI {l : Addr} {its : Array Value} (ns : List Int) {Q : Value → Shared → Prop} (ah : A.handled = none) (lh : s.heap.IsList l its) (ia : IntsAre its.toList ns) (sb : ns.length + 1 < scanBound)
    (kh : ∀ (h2 : Heap) (tk c : Nat), SetR w h2 s.heap.objs.size (fun j => decide (j ∈ ns)) c → c ≤ ns.length → (∀ b o, s.heap.get? b = some o → h2.get? b = some o) → Q (.ref s.heap.objs.size) { s with heap := h2, toks := tk }) :
    wpAny (model P w) A (call (.type "set") [.ref l]) Q E s := by
  have sz : its.size = ns.length := by have q := IntsAre.length ia; rw [Array.length_toList] at q; exact q
  obtain ⟨c, tl, mr⟩ := F.called_set.mro
  have md := F.called_set.made; have su := F.called_set.sub
  refine wpAny_call (codeAny_of_tree ?_); show wpAny _ _ (callAny (.type "set") _) _ _ _
  refine wpAny_pure ⟨Code.quiet_builtin _ (by decide +kernel), codeAny_builtin F.entry_type_call ?_⟩; rw [Around.under_plain (weight_type_call_type "set" [.ref l] []) rfl]
  have z1 := F.called_set.notType; have z2 := F.called_set.canCreate; have z3 := F.typeCall_set_1 (.ref l)
  repeat (any_goals (first | assumption | wp_step))
  refine codeAny_mono (code_set_led1 (.ref l) (E := E) (Q₁ := fun ob s1 => ob = .ref s.heap.objs.size ∧ s1 = { s with heap := s.heap.push (emptySet w) }) ⟨rfl, rfl⟩) fun r s1 hr => ?_
  cases r with
  | error e => exact hr
  | ok fl =>
    cases fl with
    | ret ob =>
      obtain ⟨rfl, rfl⟩ := hr
      have gS : (s.heap.push (emptySet w)).get? s.heap.objs.size = some (emptySet w) := Heap.get?_push_size _ rfl
      have tS : Shared.TypeIs { s with heap := s.heap.push (emptySet w) } (.ref s.heap.objs.size) "set" := ⟨_, gS, rfl⟩
      have y1 := F.called_set.init.lookup; have y2 := F.called_set.init.bind (.ref s.heap.objs.size)
      repeat (any_goals (first | assumption | wp_step))
      refine codeAny_mono (codeAny_call_builtin (R := wants (fun r s2 => r = .none ∧ ∃ h2 tk c, s2 = { s with heap := h2, toks := tk } ∧ SetR w h2 s.heap.objs.size (fun j => decide (j ∈ ns)) c ∧ c ≤ ns.length ∧ (∀ b o, s.heap.get? b = some o → h2.get? b = some o)) E) F.called_set.init.plain F.entry_set_init (check_set_init_1 tS ?_)) fun r2 s2 hr2 => ?_
      · obtain ⟨ol, go, oc, nl, od⟩ := lh
        obtain ⟨q1, q2, q3, q4⟩ := ol
        simp only at oc od
        subst oc od
        have go2 : (s.heap.push (emptySet w)).get? l = some { cls := .type "list", dict := q2, data := .seq its nl, slots := q4 } := Heap.get?_push_of_some _ go
        have x1 := F.sub_list_set; have x2 := F.sub_list_frozenset
        have x3 : (Value.type "list" == Value.type "dict") = false := by decide
        have lh1 : (s.heap.push (emptySet w)).IsList l its := ⟨_, go2, rfl, nl, rfl⟩
        unfold Builtin.«set.__init__» noKeywords Builtin.Frozenset.updateFrom
        generalize ePI : pyIter = PI
        wp_walk
        subst ePI
        refine wpAny_pyIter_list lh1 (wpAny_bind (wpAny_runValue ?_))
        have ll : l < s.heap.objs.size := Heap.lt_size go
        have a3 : A.in1.in1.in1.handled = none := by simp [ah]
        have nI : l ≠ (s.heap.push (emptySet w)).objs.size := by rw [Heap.size_push]; exact Nat.ne_of_lt (Nat.lt_succ_of_lt ll)
        have nS : s.heap.objs.size ∉ [(s.heap.push (emptySet w)).objs.size, l] := by
          rw [Heap.size_push]; simp only [List.mem_cons, List.mem_singleton, List.not_mem_nil, or_false, not_or]; exact ⟨Nat.ne_of_lt (Nat.lt_succ_self _), Nat.ne_of_gt ll⟩
        have vl : ∀ (i : Nat) (v : Value), its[i]? = some v → ∃ k t, ns[i]? = some k ∧ v = .int k t := fun i v hv => by
          have hi : i < ns.length := by rw [← sz]; exact (Array.getElem?_eq_some_iff.mp hv).1
          obtain ⟨t, e⟩ := PyProof.Rows.IntsAre.int_at ia i v (by rw [Array.getElem?_toList]; exact hv)
          exact ⟨ns[i], t, List.getElem?_eq_getElem hi, by rw [e, List.getD_eq_getElem?_getD, List.getElem?_eq_getElem hi] <;> rfl⟩
        refine set_update_ints ((Walks.list a3 _ l nI its).toS) s.heap.objs.size nS ns sz sb vl (its.size - 0) 0 _ (by omega) (Nat.zero_le _) ⟨⟨_, Heap.get?_push_size _ rfl, rfl, rfl⟩, (lh1.push _)⟩ ?k0 ?k1
        case k0 =>
          have g3 : ((s.heap.push (emptySet w)).push { cls := .type "list_iterator", data := .fields #[.ref l, .int 0 0] }).get? s.heap.objs.size = some (emptySet w) := Heap.get?_push_of_some _ gS
          exact ⟨0, Nat.le_refl 0, setR_new_at g3⟩
        case k1 =>
          intro s3 c2 hm cm sR
          obtain ⟨h3, g3, d3, t3, o3⟩ := s3
          cases (show g3 = s.gens from hm.gens); cases (show d3 = s.drawn from hm.drawn); cases (show o3 = s.os from hm.os)
          show wpAny _ _ _ _ _ _
          refine wpAny_pure ?_; show wpAny _ _ (ret Value.none) _ _ _
          rw [sz] at cm
          refine wpAny_pure ⟨rfl, h3, t3, c2, rfl, sR, cm, fun b o e => ?_⟩
          have b0 : b < s.heap.objs.size := Heap.lt_size e
          refine hm.heap b o ?_ (Heap.get?_push_of_some _ (Heap.get?_push_of_some _ e))
          simp only [List.mem_cons, List.mem_singleton, List.not_mem_nil, or_false, not_or]
          exact ⟨Nat.ne_of_lt b0, by rw [Heap.size_push]; exact Nat.ne_of_lt (Nat.lt_succ_of_lt b0)⟩
      · cases r2 with
        | error e => exact hr2
        | ok f2 =>
          cases f2 with
          | ret r =>
            obtain ⟨rfl, h3, tk, c2, rfl, sR, cm, kp⟩ := hr2
            repeat (any_goals (first | assumption | wp_step))
            exact kh _ _ _ sR cm kp
          | _ => exact hr2.elim
    | _ => exact hr.elim
end
section
variable {X : Cx} {K : PySem.W.Frag}
/-- set(xs) -/
def rSetI (w : World) : List V → Hp → VK → Prop := fun xs H Q => ∃ (a : Addr) (ns : List Int), xs = [.ref a] ∧ H a = some (.lst (ns.map V.int)) ∧ ns.length < 64 ∧ ∀ p c, H p = none → c ≤ ns.length → Q (.ref p) (upd H p (SetO w p (fun j => decide (j ∈ ns)) c))
theorem ints_are : ∀ {ns : List Int} {us : List Value}, Vals (ns.map V.int) us → PyProof.Rows.IntsAre us ns
  | [], _, .nil => .nil
  | n :: ns, _, .cons h t => by
    obtain ⟨k, rfl⟩ := h
    exact .cons n k (ints_are t)
theorem cb_setI {w : World} (hw : X.w = w) (hc : X.calm = true) : CallR X (.type "set") (rSetI w) := by
  subst hw
  intro pins s σ H xs us Q I r h
  obtain ⟨a, ns, rfl, ha, hl, q⟩ := h
  obtain ⟨its, rv, pl, hz⟩ := I.list (SqL.of ha)
  rw [Vals.ref1 r]
  refine call_set_lstI ns (I.ok.hd hc) pl.isList (by simpa using ints_are rv) (by unfold scanBound; omega) fun h2 tk c sR cm kp => ?_
  exact ⟨.ref _, _, I.laid (t' := tk) kp (Nat.le_refl _) (setO_new sR), rfl, q _ c (I.hok.fresh (Nat.le_refl _)) cm⟩
theorem cb_srtSet {w : World} (hw : X.w = w) (hc : X.calm = true) : CallR X (.builtin "sorted") (rSortedSet w) := hw ▸ cr_sortedSet hc
theorem ed_sset {w : World} {ρ : Rho} {ta : TE} {ns ms : List Int} (h : ED ta ρ (dI ns)) (hl : ns.length < 64) (hm : ms.Pairwise (· < ·)) (he : ∀ k, k ∈ ms ↔ k ∈ ns) : ED (tCB (rSortedSet w) (tCons (tCB (rSetI w) (tCons ta tNil)) tNil)) ρ (dI ms) := fun G H σ v Q q =>
  h G H σ v _ fun u G1 H1 x1 hd => by
    cases hd with
    | lst k1 k2 =>
      have := Dvs.ints _ _ k2
      subst this
      refine ⟨_, ns, rfl, x1.e _ _ k1, hl, fun p c hp hc => ⟨p, _, c, rfl, upd_same, by omega, fun rs l hs hk hn hf => ?_⟩⟩
      have e : rs = ms := by
        have nd1 : rs.Nodup := hs.imp fun {a b} z => Int.ne_of_lt z
        have nd2 : ms.Nodup := hm.imp fun {a b} z => Int.ne_of_lt z
        refine List.Perm.eq_of_pairwise (le := fun a b => a < b) (fun a b _ _ z1 z2 => by omega) hs hm ((List.perm_ext_iff_of_nodup nd1 nd2).mpr fun k => ?_)
        rw [hk, he]; simp
      subst e
      have x2 := x1.trans (Gr.hid (o := SetO w p (fun j => decide (j ∈ ns)) c) x1.e hp)
      exact q _ _ _ ((x2.trans (.new x2.e hf))) (.lst upd_same (dvs_ints _))
end
end Dl

/-! windows over lists by their index -/
namespace Rf
open Dl L2
theorem gI_cons {α : Type} [Inhabited α] (a : α) (l : List α) {k : Int} (h : 0 ≤ k) : gI (a :: l) (k + 1) = gI l k := by
  unfold gI
  rw [if_pos (by omega), if_pos h]
  have : (k + 1).toNat = k.toNat + 1 := by omega
  rw [this, List.getD_cons_succ]
theorem gI_zero {α : Type} [Inhabited α] (a : α) (l : List α) : gI (a :: l) 0 = a := rfl
theorem rg_zero (lo : Int) : rg lo 0 = [] := rfl
theorem rg_succ (lo : Int) (n : Nat) : rg lo (n + 1) = lo :: rg (lo + 1) n := by
  unfold rg
  rw [List.range_succ_eq_map, List.map_cons, List.map_map]
  congr 1
  · simp
  · apply List.map_congr_left
    intro i _
    simp only [Function.comp_apply]
    omega
theorem rg_snoc (lo : Int) (n : Nat) : rg lo (n + 1) = rg lo n ++ [lo + n] := by
  unfold rg
  rw [List.range_succ, List.map_append]; rfl
theorem rg_shift (lo c : Int) (n : Nat) : rg (lo + c) n = (rg lo n).map (· + c) := by
  unfold rg
  rw [List.map_map]
  apply List.map_congr_left
  intro i _
  simp only [Function.comp_apply]
  omega
/-- over neighbours -/
def w2 {α β : Type} (p : α → α → Bool) (g : α → α → β) : List α → List β
  | a :: b :: r => if p a b then g a b :: w2 p g (b :: r) else w2 p g (b :: r)
  | _ => []
def w3 {α β : Type} (p : α → α → α → Bool) (g : α → α → α → β) : List α → List β
  | a :: b :: c :: r => if p a b c then g a b c :: w3 p g (b :: c :: r) else w3 p g (b :: c :: r)
  | _ => []
theorem rg_filter_shift {β : Type} {lo : Int} {n : Nat} {f f' : Int → Bool} {e e' : Int → β} (h : ∀ k, lo ≤ k → k < lo + n → f (k + 1) = f' k) (h2 : ∀ k, lo ≤ k → k < lo + n → e (k + 1) = e' k) : ((rg (lo + 1) n).filter f).map e = ((rg lo n).filter f').map e' := by
  induction n generalizing lo with
  | zero => rfl
  | succ n ih =>
    rw [rg_succ, rg_succ, List.filter_cons, List.filter_cons, h lo (by omega) (by omega)]
    have := ih (lo := lo + 1) (fun k a b => h k (by omega) (by omega)) (fun k a b => h2 k (by omega) (by omega))
    split
    · rw [List.map_cons, List.map_cons, this, h2 lo (by omega) (by omega)]
    · exact this
theorem w2_ix {α β : Type} [Inhabited α] (p : α → α → Bool) (g : α → α → β) : ∀ (l : List α), ((rg 1 (l.length - 1)).filter (fun k => p (gI l (k - 1)) (gI l k))).map (fun k => g (gI l (k - 1)) (gI l k)) = w2 p g l
  | [] => rfl
  | [a] => rfl
  | a :: b :: r => by
    have ih := w2_ix p g (b :: r)
    have e1 : (a :: b :: r).length - 1 = r.length + 1 := by simp
    have e2 : (b :: r).length - 1 = r.length := by simp
    rw [e2] at ih
    rw [e1, rg_succ, List.filter_cons]
    have z0 : gI (a :: b :: r) ((1 : Int) - 1) = a := rfl
    have z1 : gI (a :: b :: r) (1 : Int) = b := rfl
    have sh : ((rg (1 + 1) r.length).filter (fun k => p (gI (a :: b :: r) (k - 1)) (gI (a :: b :: r) k))).map (fun k => g (gI (a :: b :: r) (k - 1)) (gI (a :: b :: r) k)) = w2 p g (b :: r) := by
      rw [← ih]
      apply rg_filter_shift
      · intro k h1 h2
        rw [gI_cons _ _ (by omega : 0 ≤ k), show k + 1 - 1 = (k - 1) + 1 by omega, gI_cons _ _ (by omega : 0 ≤ k - 1)]
      · intro k h1 h2
        rw [gI_cons _ _ (by omega : 0 ≤ k), show k + 1 - 1 = (k - 1) + 1 by omega, gI_cons _ _ (by omega : 0 ≤ k - 1)]
    show List.map _ (if p (gI (a :: b :: r) ((1 : Int) - 1)) (gI (a :: b :: r) 1) = true then _ else _) = if p a b = true then _ else _
    rw [z0, z1]
    split
    · rw [List.map_cons, sh, z0, z1]
    · exact sh
theorem w3_ix {α β : Type} [Inhabited α] (p : α → α → α → Bool) (g : α → α → α → β) : ∀ (l : List α), ((rg 1 (l.length - 2)).filter (fun k => p (gI l (k - 1)) (gI l k) (gI l (k + 1)))).map (fun k => g (gI l (k - 1)) (gI l k) (gI l (k + 1))) = w3 p g l
  | [] => rfl
  | [a] => rfl
  | [a, b] => rfl
  | a :: b :: c :: r => by
    have ih := w3_ix p g (b :: c :: r)
    have e1 : (a :: b :: c :: r).length - 2 = r.length + 1 := by simp
    have e2 : (b :: c :: r).length - 2 = r.length := by simp
    rw [e2] at ih
    rw [e1, rg_succ, List.filter_cons]
    have z0 : gI (a :: b :: c :: r) ((1 : Int) - 1) = a := rfl
    have z1 : gI (a :: b :: c :: r) (1 : Int) = b := rfl
    have z2 : gI (a :: b :: c :: r) ((1 : Int) + 1) = c := rfl
    have sh : ((rg (1 + 1) r.length).filter (fun k => p (gI (a :: b :: c :: r) (k - 1)) (gI (a :: b :: c :: r) k) (gI (a :: b :: c :: r) (k + 1)))).map (fun k => g (gI (a :: b :: c :: r) (k - 1)) (gI (a :: b :: c :: r) k) (gI (a :: b :: c :: r) (k + 1))) = w3 p g (b :: c :: r) := by
      rw [← ih]
      apply rg_filter_shift
      · intro k h1 h2
        rw [gI_cons _ _ (by omega : 0 ≤ k), gI_cons _ _ (by omega : 0 ≤ k + 1), show k + 1 - 1 = (k - 1) + 1 by omega, gI_cons _ _ (by omega : 0 ≤ k - 1)]
      · intro k h1 h2
        rw [gI_cons _ _ (by omega : 0 ≤ k), gI_cons _ _ (by omega : 0 ≤ k + 1), show k + 1 - 1 = (k - 1) + 1 by omega, gI_cons _ _ (by omega : 0 ≤ k - 1)]
    show List.map _ (if p (gI (a :: b :: c :: r) ((1 : Int) - 1)) (gI (a :: b :: c :: r) 1) (gI (a :: b :: c :: r) (1 + 1)) = true then _ else _) = if p a b c = true then _ else _
    rw [z0, z1, z2]
    split
    · rw [List.map_cons, sh, z0, z1, z2]
    · exact sh
/-! the data checks -/
open PySem in
def isIntD (lo hi : Int) : PyData → Bool
  | .int i => decide (lo ≤ i) && decide (i ≤ hi)
  | _ => false
open PySem in
def isRowD : PyData → Bool
  | .list ds => (decide (1 ≤ ds.length) && decide (ds.length ≤ 24)) && ds.all (isIntD (-99) 99)
  | _ => false
/-- the values of a row -/
def RowOk (ns : List Int) : Prop := ns ≠ [] ∧ ns.length ≤ 24 ∧ ∀ x ∈ ns, -99 ≤ x ∧ x ≤ 99
open PySem in
theorem isRowD_dI {ns : List Int} (h : RowOk ns) : isRowD (dI ns) = true := by
  obtain ⟨h1, h2, h3⟩ := h
  have := List.length_pos_iff.mpr h1
  simp only [isRowD, List.length_map, Bool.and_eq_true, decide_eq_true_eq, List.all_map, List.all_eq_true, Function.comp_apply, isIntD]
  exact ⟨⟨by omega, h2⟩, h3⟩
open PySem in
theorem isRowD_some {d : PyData} (h : isRowD d = true) : ∃ ns, d = dI ns ∧ RowOk ns := by
  cases d with
  | list ds =>
    simp only [isRowD, Bool.and_eq_true, decide_eq_true_eq, List.all_eq_true] at h
    obtain ⟨⟨h1, h2⟩, h3⟩ := h
    have all : ∀ ds : List PyData, (∀ d ∈ ds, isIntD (-99) 99 d = true) → ∃ ns : List Int, ds = ns.map PyData.int ∧ ∀ x ∈ ns, -99 ≤ x ∧ x ≤ 99 := by
      intro ds
      induction ds with
      | nil => intro _; exact ⟨[], rfl, fun _ h => by cases h⟩
      | cons d ds ih =>
        intro h
        obtain ⟨ns, e, hn⟩ := ih fun z q => h z (List.mem_cons_of_mem _ q)
        have hd := h d List.mem_cons_self
        cases d with
        | int i =>
          simp only [isIntD, Bool.and_eq_true, decide_eq_true_eq] at hd
          exact ⟨i :: ns, by rw [e]; rfl, fun x hx => by
            rcases List.mem_cons.mp hx with rfl | hx
            · exact hd
            · exact hn x hx⟩
        | _ => simp [isIntD] at hd
    obtain ⟨ns, e, hn⟩ := all ds h3
    subst e
    rw [List.length_map] at h1 h2
    exact ⟨ns, rfl, by intro z; subst z; simp at h1, h2, hn⟩
  | _ => simp [isRowD] at h
/-! turns -/
def single (l : List Int) : List Int := l.take 1 ++ w2 (fun a b => !decide (b = a)) (fun _ b => b) l
theorem single_ix {ns : List Int} (h : ns ≠ []) : gI ns 0 :: (((rg 1 ((ns.length : Int) - 1).toNat).filter fun k => !decide (gI ns k = gI ns (k - 1))).map (gI ns)) = single ns := by
  have e : ((ns.length : Int) - 1).toNat = ns.length - 1 := by omega
  rw [e]
  have := w2_ix (fun a b => !decide (b = a)) (fun _ (b : Int) => b) ns
  unfold single
  rw [← this]
  cases ns with
  | nil => exact absurd rfl h
  | cons a r => rfl
def turnp (a b c : Int) : Bool := !decide (decide (0 < b - a) = decide (0 < c - b))
def tin (l : List Int) : List Int := w3 turnp (fun _ b _ => b) l
theorem w2_len {α β : Type} (p : α → α → Bool) (g : α → α → β) : ∀ l : List α, (w2 p g l).length ≤ l.length - 1
  | [] => Nat.le_refl _
  | [_] => Nat.le_refl _
  | a :: b :: r => by
    have ih := w2_len p g (b :: r)
    unfold w2
    simp only [List.length_cons] at ih ⊢
    split
    · simp only [List.length_cons]; omega
    · omega
theorem single_len (ns : List Int) : (single ns).length ≤ ns.length := by
  unfold single
  have := w2_len (fun a b => !decide (b = a)) (fun _ (b : Int) => b) ns
  rw [List.length_append, List.length_take]
  cases ns with
  | nil => simp [w2]
  | cons a r => simp only [List.length_cons] at this ⊢; omega
theorem single_ne {ns : List Int} (h : ns ≠ []) : single ns ≠ [] := by
  cases ns with
  | nil => exact absurd rfl h
  | cons a r => simp [single]
theorem cut_len {α : Type} (xs : List α) (lo hi : Option Int) : (cut xs lo hi).length ≤ xs.length := by
  unfold cut
  rw [List.length_take, List.length_drop]
  omega
theorem cut_from {α : Type} (xs : List α) (k : Nat) : cut xs (some (k : Int)) none = xs.drop k := by
  unfold cut
  rw [HT.sIx_nat, HT.sIx_none]
  by_cases h : k ≤ xs.length
  · rw [Nat.min_eq_left h]
    exact List.take_of_length_le (by rw [List.length_drop]; omega)
  · rw [Nat.min_eq_right (by omega), List.drop_eq_nil_of_le (Nat.le_refl _), List.drop_eq_nil_of_le (by omega)]; simp
theorem cut_to {α : Type} (xs : List α) (k : Nat) : cut xs none (some (k : Int)) = xs.take k := by
  unfold cut
  rw [HT.sIx_nat, HT.sIx_none, List.drop_zero, Nat.sub_zero]
  by_cases h : k ≤ xs.length
  · rw [Nat.min_eq_left h]
  · rw [Nat.min_eq_right (by omega), List.take_length, List.take_of_length_le (by omega)]
/-- xs[-k:] -/
theorem cut_last {α : Type} (xs : List α) (k : Nat) (hk : 0 < k) : cut xs (some (-(k : Int))) none = xs.drop (xs.length - k) := by
  unfold cut
  have e : HT.sIx xs.length 0 (some (-(k : Int))) = xs.length - k := by
    show (if (-(k : Int)) < 0 then (-(k : Int) + (xs.length : Int)).toNat else _) = _
    rw [if_pos (by omega)]; omega
  rw [e, HT.sIx_none]
  exact List.take_of_length_le (by rw [List.length_drop]; omega)
/-- xs[:-k] -/
theorem cut_but {α : Type} (xs : List α) (k : Nat) (hk : 0 < k) : cut xs none (some (-(k : Int))) = xs.take (xs.length - k) := by
  unfold cut
  have e : HT.sIx xs.length xs.length (some (-(k : Int))) = xs.length - k := by
    show (if (-(k : Int)) < 0 then (-(k : Int) + (xs.length : Int)).toNat else _) = _
    rw [if_pos (by omega)]; omega
  rw [e, HT.sIx_none, List.drop_zero, Nat.sub_zero]
def turned (row : List Int) : List Int := (single row).take 1 ++ (tin (single row) ++ ((single row).drop 1).drop (((single row).drop 1).length - 1))
theorem turned_ix {l : List Int} (h : l ≠ []) : (gI l 0 :: ((rg 1 ((l.length : Int) - 1 - 1).toNat).filter (fun k => turnp (gI l (k - 1)) (gI l k) (gI l (k + 1)))).map (gI l)) ++ cut (cut l (some 1) none) (some (-1)) none
    = l.take 1 ++ (tin l ++ (l.drop 1).drop ((l.drop 1).length - 1)) := by
  have e : ((l.length : Int) - 1 - 1).toNat = l.length - 2 := by omega
  have c1 : cut l (some 1) none = l.drop 1 := cut_from l 1
  have c2 : cut (l.drop 1) (some (-1)) none = (l.drop 1).drop ((l.drop 1).length - 1) := cut_last (l.drop 1) 1 (by omega)
  rw [e, c1, c2]
  have := w3_ix turnp (fun _ (b : Int) _ => b) l
  unfold tin
  rw [← this]
  cases l with
  | nil => exact absurd rfl h
  | cons a r => rfl
theorem w3_len {α β : Type} (p : α → α → α → Bool) (g : α → α → α → β) : ∀ l : List α, (w3 p g l).length ≤ l.length - 2
  | [] => Nat.le_refl _
  | [_] => Nat.le_refl _
  | [_, _] => Nat.le_refl _
  | a :: b :: c :: r => by
    have ih := w3_len p g (b :: c :: r)
    unfold w3
    simp only [List.length_cons] at ih ⊢
    split
    · simp only [List.length_cons]; omega
    · omega
theorem turned_ne {ns : List Int} (h : ns ≠ []) : turned ns ≠ [] := by
  have := single_ne h
  unfold turned
  cases e : single ns with
  | nil => exact absurd e this
  | cons a r => simp
theorem turned_len (ns : List Int) : (turned ns).length ≤ ns.length := by
  have h1 := single_len ns
  have h2 : (tin (single ns)).length ≤ (single ns).length - 2 := w3_len turnp _ (single ns)
  unfold turned
  simp only [List.length_append, List.length_take, List.length_drop]
  omega
def ranges (l : List Int) : List Int := w2 (fun _ _ => true) (fun a b => ((b - a).natAbs : Int)) l
theorem ranges_ix (l : List Int) : ((rg 0 ((l.length : Int) - 1).toNat).map fun k => ((gI l (k + 1) - gI l k).natAbs : Int)) = ranges l := by
  have e : ((l.length : Int) - 1).toNat = l.length - 1 := by omega
  rw [e]
  unfold ranges
  have := w2_ix (fun _ _ => true) (fun (a b : Int) => ((b - a).natAbs : Int)) l
  rw [List.filter_eq_self.mpr (fun _ _ => rfl)] at this
  rw [← this, show (1 : Int) = 0 + 1 from rfl, rg_shift, List.map_map]
  apply List.map_congr_left
  intro k hk
  simp only [Function.comp_apply]
  rw [show k + 1 - (0 + 1) = k by omega, show k + (0 + 1) = k + 1 by omega]
theorem gI_mem {α : Type} [Inhabited α] {xs : List α} {i : Int} (h1 : -(xs.length : Int) ≤ i) (h2 : i < xs.length) : gI xs i ∈ xs := by
  have := gI_get h1 h2
  unfold atI at this
  cases e : ixN xs.length i with
  | none => rw [e] at this; cases this
  | some j => rw [e] at this; exact List.mem_of_getElem? this
theorem single_ix2 (ns : List Int) : (((rg 0 (ns.length : Int).toNat).filter fun k => decide (k = 0) || !decide (gI ns k = gI ns (k - 1))).map (gI ns)) = single ns := by
  cases ns with
  | nil => rfl
  | cons a r =>
    have e : (((a :: r).length : Nat) : Int).toNat = r.length + 1 := by simp
    rw [e, rg_succ, List.filter_cons, if_pos (by simp)]
    have := single_ix (ns := a :: r) (by simp)
    rw [← this]
    have e2 : ((((a :: r).length : Nat) : Int) - 1).toNat = r.length := by simp
    rw [e2, List.map_cons]
    show _ :: _ = _ :: _
    congr 2
    apply List.filter_congr
    intro k hk
    have := (rg_mem hk).1
    rw [decide_eq_false (by omega : ¬ k = 0), Bool.false_or]
/-- the law's own test for a turn -/
def ltp (l : List Int) (k : Int) : Bool := (decide (k = 0) || decide (k = l.length - 1)) || (decide (max (gI l (k - 1)) (gI l (k + 1)) < gI l k) || decide (gI l k < min (gI l (k - 1)) (gI l (k + 1))))
theorem single_cc (a b : Int) (r : List Int) : single (a :: b :: r) = if b = a then single (b :: r) else a :: single (b :: r) := by
  have e1 : single (a :: b :: r) = a :: (if (!decide (b = a)) = true then b :: w2 (fun a b => !decide (b = a)) (fun _ b => b) (b :: r) else w2 (fun a b => !decide (b = a)) (fun _ b => b) (b :: r)) := rfl
  have e2 : single (b :: r) = b :: w2 (fun a b => !decide (b = a)) (fun _ b => b) (b :: r) := rfl
  rw [e1, e2]
  by_cases h : b = a
  · subst h; simp
  · simp [h]
theorem single_one (a : Int) : single [a] = [a] := rfl
theorem single_head (b : Int) (r : List Int) : ∃ s, single (b :: r) = b :: s := ⟨_, rfl⟩
/-- neighbours differ -/
def adj : List Int → Prop
  | a :: b :: r => b ≠ a ∧ adj (b :: r)
  | _ => True
theorem single_adj : ∀ ns : List Int, adj (single ns)
  | [] => trivial
  | [a] => trivial
  | a :: b :: r => by
    have ih := single_adj (b :: r)
    rw [single_cc]
    split
    · exact ih
    · rename_i h
      obtain ⟨s, e⟩ := single_head b r
      rw [e] at ih ⊢
      exact ⟨h, ih⟩
theorem adj_ix : ∀ {l : List Int}, adj l → ∀ {k : Int}, 1 ≤ k → k < l.length → gI l k ≠ gI l (k - 1)
  | [], _, k, h1, h2 => by simp at h2; omega
  | [a], _, k, h1, h2 => by simp at h2; omega
  | a :: b :: r, h, k, h1, h2 => by
    by_cases hk : k = 1
    · subst hk; exact h.1
    · have ih := adj_ix h.2 (k := k - 1) (by omega) (by simp only [List.length_cons] at h2 ⊢; omega)
      have e1 : gI (a :: b :: r) k = gI (b :: r) (k - 1) := by
        have := gI_cons a (b :: r) (k := k - 1) (by omega)
        rw [show k - 1 + 1 = k by omega] at this
        exact this
      have e2 : gI (a :: b :: r) (k - 1) = gI (b :: r) (k - 1 - 1) := by
        have := gI_cons a (b :: r) (k := k - 1 - 1) (by omega)
        rw [show k - 1 - 1 + 1 = k - 1 by omega] at this
        exact this
      rw [e1, e2]; exact ih
theorem turned_ix2 {l : List Int} (h : l ≠ []) (ha : adj l) : ((rg 0 (l.length : Int).toNat).filter (fun k => ltp l k)).map (gI l) = l.take 1 ++ (tin l ++ (l.drop 1).drop ((l.drop 1).length - 1)) := by
  rw [← turned_ix h]
  obtain ⟨a, r, rfl⟩ : ∃ a r, l = a :: r := by
    cases l with
    | nil => exact absurd rfl h
    | cons a r => exact ⟨a, r, rfl⟩
  have c1 : cut (a :: r) (some 1) none = r := cut_from (a :: r) 1
  rw [c1]
  have c2 : cut r (some (-1)) none = r.drop (r.length - 1) := cut_last r 1 (by omega)
  rw [c2]
  have e : (((a :: r).length : Nat) : Int).toNat = r.length + 1 := by simp
  rw [e, rg_succ, List.filter_cons, if_pos (by simp [ltp]), List.map_cons]
  show _ :: _ = _ :: _
  congr 1
  cases hr : r.length with
  | zero =>
    have : r = [] := List.length_eq_zero_iff.mp hr
    subst this
    rfl
  | succ n =>
    have e2 : ((((a :: r).length : Nat) : Int) - 1 - 1).toNat = n := by simp only [List.length_cons, hr]; omega
    rw [rg_snoc, List.filter_append, List.map_append, e2]
    congr 1
    · show _ = List.map (gI (a :: r)) _
      congr 1
      apply List.filter_congr
      intro k hk
      have hk1 := (rg_mem hk).1
      have hk2 := (rg_mem hk).2
      have hl : ((a :: r).length : Int) = n + 2 := by simp only [List.length_cons, hr]; omega
      have d1 := adj_ix ha (k := k) (by omega) (by omega)
      have d2 := adj_ix ha (k := k + 1) (by omega) (by omega)
      rw [show k + 1 - 1 = k by omega] at d2
      unfold ltp turnp
      rw [decide_eq_false (by omega : ¬ k = 0), decide_eq_false (by omega : ¬ k = (a :: r).length - 1)]
      simp only [Bool.or_false, Bool.false_or]
      by_cases p1 : 0 < gI (a :: r) k - gI (a :: r) (k - 1) <;> by_cases p2 : 0 < gI (a :: r) (k + 1) - gI (a :: r) k <;> simp only [p1, p2, decide_true, decide_false, decide_eq_true_eq] <;> simp <;> omega
    · have hl : ((a :: r).length : Int) = n + 2 := by simp only [List.length_cons, hr]; omega
      rw [List.filter_cons, if_pos (by unfold ltp; rw [decide_eq_true (by omega : (0 + 1 + (n : Int)) = (a :: r).length - 1)]; simp)]
      have : r.drop (n + 1 - 1) = [gI (a :: r) (0 + 1 + (n : Int))] := by
        rw [show (0 + 1 + (n : Int)) = (n : Int) + 1 by omega, gI_cons _ _ (by omega), gI_nat]
        have hn : n < r.length := by omega
        rw [show n + 1 - 1 = n by omega, List.drop_eq_getElem_cons hn, List.drop_eq_nil_of_le (by omega), List.getD_eq_getElem?_getD, List.getElem?_eq_getElem hn]; rfl
      rw [this]; rfl
end Rf

/-! the places of the turns -/
namespace Rf
open Dl L2
theorem list_ix {α : Type} [Inhabited α] (l : List α) : (rg 0 l.length).map (gI l) = l := by
  apply List.ext_getElem?
  intro i
  rw [List.getElem?_map]
  by_cases h : i < l.length
  · rw [rg_get h, List.getElem?_eq_getElem h]
    simp only [Option.map_some, Int.zero_add]
    rw [gI_nat, List.getD_eq_getElem?_getD, List.getElem?_eq_getElem h]; rfl
  · rw [List.getElem?_eq_none (by rw [rg_len]; omega), List.getElem?_eq_none (by omega)]; rfl
theorem gI_map {α β : Type} [Inhabited α] [Inhabited β] (f : α → β) {l : List α} {k : Int} (h1 : 0 ≤ k) (h2 : k < l.length) : gI (l.map f) k = f (gI l k) := by
  unfold gI
  rw [if_pos h1, if_pos h1, List.getD_eq_getElem?_getD, List.getD_eq_getElem?_getD, List.getElem?_map]
  have : k.toNat < l.length := by omega
  rw [List.getElem?_eq_getElem this]; rfl
theorem rg_up (lo : Int) : ∀ n : Nat, (rg lo n).Pairwise (· < ·)
  | 0 => List.Pairwise.nil
  | n + 1 => by
    rw [rg_snoc]
    refine List.pairwise_append.mpr ⟨rg_up lo n, by simp, fun a ha b hb => ?_⟩
    have := (rg_mem ha).2
    simp at hb; omega
/-- the places of the single values -/
def sp (ns : List Int) : List Int := 0 :: ((rg 1 ((ns.length : Int) - 1).toNat).filter fun k => !decide (gI ns k = gI ns (k - 1)))
theorem sp_map {ns : List Int} (h : ns ≠ []) : (sp ns).map (gI ns) = single ns := by
  rw [← single_ix h]; rfl
theorem sp_up (ns : List Int) : (sp ns).Pairwise (· < ·) := by
  unfold sp
  refine List.Pairwise.cons (fun k hk => ?_) ((rg_up 1 _).filter _)
  have := (rg_mem ((List.mem_filter.mp hk).1)).1
  omega
theorem sp_in {ns : List Int} (h : ns ≠ []) {k : Int} (hk : k ∈ sp ns) : 0 ≤ k ∧ k < ns.length ∧ (0 < k → gI ns k ≠ gI ns (k - 1)) := by
  have hp := List.length_pos_iff.mpr h
  unfold sp at hk
  rcases List.mem_cons.mp hk with rfl | hk
  · exact ⟨by omega, by omega, fun z => by omega⟩
  · obtain ⟨h1, h2⟩ := List.mem_filter.mp hk
    have := rg_mem h1
    refine ⟨by omega, by omega, fun _ z => ?_⟩
    simp [z] at h2
def tidx (l : List Int) : List Int := (0 :: ((rg 1 ((l.length : Int) - 1 - 1).toNat).filter (fun k => turnp (gI l (k - 1)) (gI l k) (gI l (k + 1))))) ++ cut (cut (rg 0 l.length) (some 1) none) (some (-1)) none
theorem tidx_cut (n : Nat) : cut (cut (rg 0 n) (some 1) none) (some (-1)) none = (rg 0 n).drop (max 1 (n - 1)) := by
  have c1 : cut (rg 0 n) (some 1) none = (rg 0 n).drop 1 := cut_from _ 1
  have c2 : cut ((rg 0 n).drop 1) (some (-1)) none = ((rg 0 n).drop 1).drop (((rg 0 n).drop 1).length - 1) := cut_last _ 1 (by omega)
  rw [c1, c2, List.drop_drop, List.length_drop, rg_len]
  congr 1
  omega
theorem rg_drop (lo : Int) : ∀ (k n : Nat), (rg lo n).drop k = rg (lo + k) (n - k)
  | 0, n => by simp
  | k + 1, 0 => by simp [rg]
  | k + 1, n + 1 => by
    rw [rg_succ, List.drop_succ_cons, rg_drop (lo + 1) k n]
    congr 1
    · omega
    · omega
theorem tidx_up (l : List Int) : (tidx l).Pairwise (· < ·) := by
  unfold tidx
  rw [tidx_cut, rg_drop]
  refine List.pairwise_append.mpr ⟨List.Pairwise.cons (fun k hk => ?_) ((rg_up 1 _).filter _), rg_up _ _, fun a ha b hb => ?_⟩
  · have := (rg_mem ((List.mem_filter.mp hk).1)).1
    omega
  · have hb := rg_mem hb
    rcases List.mem_cons.mp ha with rfl | ha
    · omega
    · have := rg_mem ((List.mem_filter.mp ha).1)
      omega
theorem tidx_in {l : List Int} (h : l ≠ []) {k : Int} (hk : k ∈ tidx l) : 0 ≤ k ∧ k < l.length := by
  have hp := List.length_pos_iff.mpr h
  unfold tidx at hk
  rw [tidx_cut, rg_drop] at hk
  rcases List.mem_append.mp hk with hk | hk
  · rcases List.mem_cons.mp hk with rfl | hk
    · omega
    · have := rg_mem ((List.mem_filter.mp hk).1)
      omega
  · have := rg_mem hk
    omega
theorem tidx_map {l : List Int} (h : l ≠ []) : (tidx l).map (gI l) = l.take 1 ++ (tin l ++ (l.drop 1).drop ((l.drop 1).length - 1)) := by
  rw [← turned_ix h]
  unfold tidx
  rw [List.map_append, ← cut_map, ← cut_map, list_ix]; rfl
/-- turn_places -/
def tplaces (ns : List Int) : List Int := (0 :: ((rg 1 (((single ns).length : Int) - 1 - 1).toNat).filter (fun k => turnp (gI (single ns) (k - 1)) (gI (single ns) k) (gI (single ns) (k + 1)))).map (gI (sp ns))) ++ cut (cut (sp ns) (some 1) none) (some (-1)) none
theorem sp_len {ns : List Int} (h : ns ≠ []) : (sp ns).length = (single ns).length := by rw [← sp_map h, List.length_map]
theorem tplaces_eq {ns : List Int} (h : ns ≠ []) : tplaces ns = (tidx (single ns)).map (gI (sp ns)) := by
  unfold tplaces tidx
  rw [List.map_append, ← cut_map, ← cut_map, ← sp_len h, list_ix]; rfl
theorem tplaces_map {ns : List Int} (h : ns ≠ []) : (tplaces ns).map (gI ns) = turned ns := by
  have hs := single_ne h
  unfold turned
  rw [← tidx_map hs, tplaces_eq h, List.map_map]
  apply List.map_congr_left
  intro k hk
  have := tidx_in hs hk
  rw [Function.comp_apply, ← sp_map h, gI_map (gI ns) this.1 (by rw [sp_len h]; exact this.2)]
theorem gI_up {l : List Int} (h : l.Pairwise (· < ·)) {a b : Int} (h0 : 0 ≤ a) (h1 : a < b) (h2 : b < l.length) : gI l a < gI l b := by
  have ha : a.toNat < l.length := by omega
  have hb : b.toNat < l.length := by omega
  have e1 : gI l a = l[a.toNat] := by
    unfold gI; rw [if_pos h0, List.getD_eq_getElem?_getD, List.getElem?_eq_getElem ha]; rfl
  have e2 : gI l b = l[b.toNat] := by
    unfold gI; rw [if_pos (by omega), List.getD_eq_getElem?_getD, List.getElem?_eq_getElem hb]; rfl
  rw [e1, e2]
  exact List.pairwise_iff_getElem.mp h _ _ ha hb (by omega)
theorem tplaces_up {ns : List Int} (h : ns ≠ []) : (tplaces ns).Pairwise (· < ·) := by
  have hs := single_ne h
  rw [tplaces_eq h, List.pairwise_map]
  refine List.Pairwise.imp_of_mem (fun {a b} ha hb z => ?_) (tidx_up (single ns))
  have h1 := tidx_in hs ha
  have h2 := tidx_in hs hb
  exact gI_up (sp_up ns) h1.1 z (by rw [sp_len h]; exact h2.2)
theorem tplaces_in {ns : List Int} (h : ns ≠ []) {k : Int} (hk : k ∈ tplaces ns) : 0 ≤ k ∧ k < ns.length ∧ (0 < k → gI ns k ≠ gI ns (k - 1)) := by
  have hs := single_ne h
  rw [tplaces_eq h] at hk
  obtain ⟨j, hj, rfl⟩ := List.mem_map.mp hk
  have hj := tidx_in hs hj
  exact sp_in h (gI_mem (by rw [sp_len h]; omega) (by rw [sp_len h]; omega))
theorem tplaces_head (ns : List Int) : gI (tplaces ns) 0 = 0 := rfl
theorem tplaces_len {ns : List Int} (h : ns ≠ []) : (tplaces ns).length ≤ ns.length := by
  have := congrArg List.length (tplaces_map h)
  rw [List.length_map] at this
  rw [this]; exact turned_len ns
theorem tplaces_ne (ns : List Int) : tplaces ns ≠ [] := by unfold tplaces; simp
/-! turns, one value after another; stacks lie with their last value first -/
def ext (a b c : Int) : Prop := (a < b ∧ c < b) ∨ (b < a ∧ b < c)
instance (a b c : Int) : Decidable (ext a b c) := by unfold ext; exact inferInstance
def psh : List Int → Int → List Int
  | [], v => [v]
  | [b], v => if b = v then [b] else [v, b]
  | b :: p :: r, v => if b = v then b :: p :: r else if ext p b v then v :: b :: p :: r else v :: p :: r
theorem psh_one (b v : Int) : psh [b] v = if b = v then [b] else [v, b] := rfl
theorem psh_two (b p : Int) (r : List Int) (v : Int) : psh (b :: p :: r) v = if b = v then b :: p :: r else if ext p b v then v :: b :: p :: r else v :: p :: r := rfl
/-- turning values -/
def isT : List Int → Prop
  | a :: b :: c :: r => ext a b c ∧ isT (b :: c :: r)
  | [a, b] => a ≠ b
  | _ => True
theorem isT_tail {a : Int} {l : List Int} (h : isT (a :: l)) : isT l := by
  match l, h with
  | [], _ => trivial
  | [b], _ => trivial
  | b :: c :: r, h => exact h.2
theorem isT_ne {a b : Int} {l : List Int} (h : isT (a :: b :: l)) : a ≠ b := by
  match l, h with
  | [], h => exact h
  | c :: r, h => have := h.1; unfold ext at this; omega
theorem psh_isT {s : List Int} (h : isT s) (v : Int) : isT (psh s v) := by
  match s, h with
  | [], _ => trivial
  | [b], _ =>
    rw [psh_one]
    split
    · trivial
    · rename_i e; exact fun z => e z.symm
  | b :: p :: r, h =>
    rw [psh_two]
    have hn := isT_ne h
    split
    · exact h
    · rename_i e
      split
      · rename_i d
        exact ⟨by unfold ext at *; omega, h⟩
      · rename_i d
        match r, h with
        | [], h => show v ≠ p; unfold ext at d; omega
        | q :: r, h => exact ⟨by have := h.1; unfold ext at *; omega, h.2⟩
theorem foldl_isT : ∀ (l s : List Int), isT s → isT (l.foldl psh s)
  | [], _, h => h
  | v :: l, s, h => foldl_isT l (psh s v) (psh_isT h v)
theorem psh_ne (s : List Int) (v : Int) : ∃ t, psh s v = v :: t := by
  match s with
  | [] => exact ⟨_, rfl⟩
  | [b] =>
    rw [psh_one]
    split
    · rename_i e; subst e; exact ⟨_, rfl⟩
    · exact ⟨_, rfl⟩
  | b :: p :: r =>
    rw [psh_two]
    split
    · rename_i e; subst e; exact ⟨_, rfl⟩
    · split <;> exact ⟨_, rfl⟩
/-- a value upon turning values, itself a turn -/
theorem psh_add {b : Int} {r : List Int} {v : Int} (h : isT (v :: b :: r)) : psh (b :: r) v = v :: b :: r := by
  match r, h with
  | [], h => rw [psh_one, if_neg (fun z => h z.symm)]
  | p :: r, h => rw [psh_two, if_neg (by have := h.1; unfold ext at this; omega), if_pos (by have := h.1; unfold ext at *; omega)]
/-- lists of turns read backwards are lists of turns -/
theorem isT_app : ∀ {l : List Int} {a b : Int} {r : List Int}, isT (l ++ a :: b :: r) → isT (l ++ [a, b]) ∧ isT (a :: b :: r)
  | [], a, b, r, h => ⟨isT_ne h, h⟩
  | [x], a, b, r, h => ⟨⟨h.1, isT_ne h.2⟩, h.2⟩
  | x :: y :: l, a, b, r, h => by
    have ih := isT_app (l := y :: l) (a := a) (b := b) (r := r) (isT_tail h)
    refine ⟨?_, ih.2⟩
    match l, h, ih with
    | [], h, ih => exact ⟨h.1, ih.1⟩
    | z :: l, h, ih => exact ⟨h.1, ih.1⟩
theorem app_isT : ∀ {l : List Int} {a b : Int} {r : List Int}, isT (l ++ [a, b]) → isT (a :: b :: r) → isT (l ++ a :: b :: r)
  | [], a, b, r, _, h => h
  | [x], a, b, r, h, h2 => ⟨h.1, h2⟩
  | x :: y :: l, a, b, r, h, h2 => by
    have ih := app_isT (l := y :: l) (isT_tail h) h2
    match l, h, ih with
    | [], h, ih => exact ⟨h.1, ih⟩
    | z :: l, h, ih => exact ⟨h.1, ih⟩
theorem rev_isT : ∀ {l : List Int}, isT l → isT l.reverse
  | [], _ => trivial
  | [_], _ => trivial
  | [a, b], h => fun z => h z.symm
  | a :: b :: c :: r, h => by
    have ih := rev_isT (l := b :: c :: r) h.2
    have e : (a :: b :: c :: r).reverse = r.reverse ++ c :: b :: [a] := by simp
    have e2 : (b :: c :: r).reverse = r.reverse ++ [c, b] := by simp
    rw [e2] at ih
    rw [e]
    exact app_isT ih ⟨by have := h.1; unfold ext at *; omega, fun z => by have := h.1; unfold ext at this; omega⟩
/-- turning values are their own turns -/
theorem foldl_self : ∀ (l s : List Int), isT (l.reverse ++ s) → l.foldl psh s = l.reverse ++ s
  | [], s, _ => rfl
  | v :: l, s, h => by
    have e : (v :: l).reverse ++ s = l.reverse ++ (v :: s) := by simp
    rw [e] at h ⊢
    rw [List.foldl_cons]
    have hs : isT (v :: s) := by
      have key : ∀ m : List Int, isT (m ++ v :: s) → isT (v :: s) := by
        intro m
        induction m with
        | nil => exact fun z => z
        | cons x r ih => exact fun z => ih (isT_tail z)
      exact key _ h
    have : psh s v = v :: s := by
      match s, hs with
      | [], _ => rfl
      | b :: r, hs => exact psh_add hs
    rw [this]
    exact foldl_self l (v :: s) h
/-! the window's turns are these -/
theorem w2_snoc {α β : Type} (p : α → α → Bool) (g : α → α → β) : ∀ (l : List α) (a b : α), w2 p g (l ++ [a, b]) = w2 p g (l ++ [a]) ++ (if p a b then [g a b] else [])
  | [], a, b => by simp [w2]
  | [x], a, b => by
    simp only [List.cons_append, List.nil_append, w2]
    split <;> split <;> simp
  | x :: y :: l, a, b => by
    have ih := w2_snoc p g (y :: l) a b
    simp only [List.cons_append, w2] at ih ⊢
    split
    · rw [ih]; rfl
    · exact ih
theorem w3_snoc {α β : Type} (p : α → α → α → Bool) (g : α → α → α → β) : ∀ (l : List α) (a b c : α), w3 p g (l ++ [a, b, c]) = w3 p g (l ++ [a, b]) ++ (if p a b c then [g a b c] else [])
  | [], a, b, c => by simp [w3]
  | [x], a, b, c => by
    simp only [List.cons_append, List.nil_append, w3]
    split <;> split <;> simp
  | [x, y], a, b, c => by
    have ih := w3_snoc p g [y] a b c
    simp only [List.cons_append, List.nil_append] at ih ⊢
    have u1 : w3 p g [x, y, a, b, c] = if p x y a then g x y a :: w3 p g [y, a, b, c] else w3 p g [y, a, b, c] := rfl
    have u2 : w3 p g [x, y, a, b] = if p x y a then g x y a :: w3 p g [y, a, b] else w3 p g [y, a, b] := rfl
    rw [u1, ih, u2]
    split
    · rfl
    · rfl
  | x :: y :: z :: l, a, b, c => by
    have ih := w3_snoc p g (y :: z :: l) a b c
    simp only [List.cons_append, w3] at ih ⊢
    split
    · rw [ih]; rfl
    · exact ih
theorem single_snoc (l : List Int) (a b : Int) : single (l ++ [a, b]) = if b = a then single (l ++ [a]) else single (l ++ [a]) ++ [b] := by
  unfold single
  rw [w2_snoc]
  have t1 : (l ++ [a, b]).take 1 = (l ++ [a]).take 1 := by cases l <;> rfl
  rw [t1]
  by_cases h : b = a
  · simp [h]
  · simp [h]
theorem single_last : ∀ (l : List Int) (a : Int), ∃ m, single (l ++ [a]) = m ++ [a]
  | [], a => ⟨[], rfl⟩
  | x :: l, a => by
    rcases List.eq_nil_or_concat l with rfl | ⟨m, y, rfl⟩
    · show ∃ m, single ([] ++ [x, a]) = m ++ [a]
      rw [single_snoc]
      split
      · rename_i h; subst h; exact ⟨[], rfl⟩
      · exact ⟨_, rfl⟩
    · have e : x :: (m.concat y) ++ [a] = (x :: m) ++ [y, a] := by simp
      rw [e, single_snoc]
      split
      · rename_i h
        subst h
        have := single_last (x :: m) a
        exact this
      · exact ⟨_, rfl⟩
termination_by l => l.length
/-- turns of single values, from the last one back -/
def tsn (l : List Int) : List Int := l.take 1 ++ (tin l ++ (l.drop 1).drop ((l.drop 1).length - 1))
theorem drop_last (l : List Int) (a : Int) : (l ++ [a]).drop ((l ++ [a]).length - 1) = [a] := by
  rw [List.length_append, List.length_singleton, Nat.add_sub_cancel, List.drop_append, List.drop_eq_nil_of_le (Nat.le_refl _)]
  simp
theorem tsn_one (a : Int) : tsn [a] = [a] := rfl
theorem tsn_two (a b : Int) : tsn [a, b] = [a, b] := rfl
theorem tsn_snoc (l : List Int) (a b c : Int) : tsn (l ++ [a, b, c]) = if turnp a b c then tsn (l ++ [a, b]) ++ [c] else (tsn (l ++ [a, b])).dropLast ++ [c] := by
  have d1 : ((l ++ [a, b, c]).drop 1).drop (((l ++ [a, b, c]).drop 1).length - 1) = [c] := by
    cases l with
    | nil => rfl
    | cons x l =>
      have e : (x :: l ++ [a, b, c]).drop 1 = (l ++ [a, b]) ++ [c] := by simp
      rw [e]; exact drop_last _ _
  have d2 : ((l ++ [a, b]).drop 1).drop (((l ++ [a, b]).drop 1).length - 1) = [b] := by
    cases l with
    | nil => rfl
    | cons x l =>
      have e : (x :: l ++ [a, b]).drop 1 = (l ++ [a]) ++ [b] := by simp
      rw [e]; exact drop_last _ _
  have t1 : (l ++ [a, b, c]).take 1 = (l ++ [a, b]).take 1 := by cases l <;> rfl
  unfold tsn tin
  rw [d1, d2, t1, w3_snoc]
  split
  · simp
  · simp only [List.append_nil]
    rw [← List.append_assoc, ← List.append_assoc, List.dropLast_concat]
theorem turned_tsn (ns : List Int) : turned ns = tsn (single ns) := rfl
/-- .. the direction at the end is that of the last two single values -/
theorem tsn_dir : ∀ (n : Nat) (l : List Int) (a b : Int), l.length = n → adj (l ++ [a, b]) → ∃ m p, tsn (l ++ [a, b]) = m ++ [p, b] ∧ ((p < b ∧ a < b) ∨ (b < p ∧ b < a)) := by
  intro n
  induction n with
  | zero =>
    intro l a b hl ha
    have : l = [] := List.length_eq_zero_iff.mp hl
    subst this
    have h : b ≠ a := ha.1
    exact ⟨[], a, rfl, by omega⟩
  | succ n ih =>
    intro l a b hl ha
    rcases List.eq_nil_or_concat l with rfl | ⟨m, y, rfl⟩
    · simp at hl
    · have e : m.concat y ++ [a, b] = m ++ [y, a, b] := by simp
      have e2 : m.concat y ++ [a] = m ++ [y, a] := by simp
      rw [e] at ha ⊢
      have hadj : ∀ {l : List Int} {x y z : Int}, adj (l ++ [x, y, z]) → adj (l ++ [x, y]) ∧ z ≠ y := by
        intro l
        induction l with
        | nil => intro x y z h; exact ⟨⟨h.1, trivial⟩, h.2.1⟩
        | cons u l ih =>
          intro x y z h
          have t : adj (l ++ [x, y, z]) := by
            cases l with
            | nil => exact h.2
            | cons w l => exact h.2
          have := ih t
          refine ⟨?_, this.2⟩
          cases l with
          | nil => exact ⟨h.1, this.1⟩
          | cons w l => exact ⟨h.1, this.1⟩
      obtain ⟨h1, h2⟩ := hadj ha
      obtain ⟨m', p, e3, hd⟩ := ih m y a (by simp at hl; exact hl) h1
      rw [tsn_snoc, e3]
      unfold turnp
      split
      · rename_i ht
        refine ⟨m' ++ [p], a, by simp, ?_⟩
        omega
      · rename_i ht
        refine ⟨m', p, ?_, ?_⟩
        · have : (m' ++ [p, a]).dropLast = m' ++ [p] := by
            rw [show m' ++ [p, a] = (m' ++ [p]) ++ [a] by simp, List.dropLast_concat]
          rw [this]; simp
        · by_cases q1 : 0 < a - y <;> by_cases q2 : 0 < b - a <;> simp [q1, q2] at ht <;> omega
theorem turned_snoc (l : List Int) (a b : Int) : (turned (l ++ [a, b])).reverse = psh (turned (l ++ [a])).reverse b := by
  rw [turned_tsn, turned_tsn, single_snoc]
  obtain ⟨m, e⟩ := single_last l a
  have ha := single_adj (l ++ [a])
  rw [e] at ha ⊢
  split
  · rename_i h
    subst h
    -- the same value again
    rcases List.eq_nil_or_concat m with rfl | ⟨q, y, rfl⟩
    · show [b].reverse = psh [b].reverse b
      simp [psh]
    · have e2 : q.concat y ++ [b] = q ++ [y, b] := by simp
      rw [e2] at ha ⊢
      obtain ⟨m', p, e3, hd⟩ := tsn_dir _ q y b rfl ha
      rw [e3]
      simp [psh]
  · rename_i h
    rcases List.eq_nil_or_concat m with rfl | ⟨q, y, rfl⟩
    · show [a, b].reverse = psh [a].reverse b
      simp [psh, Ne.symm h]
    · have e2 : q.concat y ++ [a] = q ++ [y, a] := by simp
      have e4 : q ++ [y, a] ++ [b] = q ++ [y, a, b] := by simp
      rw [e2] at ha ⊢
      rw [e4, tsn_snoc]
      obtain ⟨m', p, e3, hd⟩ := tsn_dir _ q y a rfl ha
      rw [e3]
      have e5 : (m' ++ [p, a]).reverse = a :: p :: m'.reverse := by simp
      rw [e5]
      unfold turnp
      rw [psh_two, if_neg (Ne.symm h)]
      have e6 : (m' ++ [p, a]).dropLast = m' ++ [p] := by
        rw [show m' ++ [p, a] = (m' ++ [p]) ++ [a] by simp, List.dropLast_concat]
      by_cases x : ext p a b
      · rw [if_pos x, if_pos (by unfold ext at x; by_cases q1 : 0 < a - y <;> by_cases q2 : 0 < b - a <;> simp [q1, q2] <;> omega)]
        simp
      · rw [if_neg x, if_neg (by unfold ext at x; by_cases q1 : 0 < a - y <;> by_cases q2 : 0 < b - a <;> simp [q1, q2] <;> omega), e6]
        simp
theorem turned_fold : ∀ (l : List Int), (turned l).reverse = l.foldl psh [] := by
  have key : ∀ (n : Nat) (l : List Int), l.length = n → (turned l).reverse = l.foldl psh [] := by
    intro n
    induction n with
    | zero => intro l hl; have : l = [] := List.length_eq_zero_iff.mp hl; subst this; rfl
    | succ n ih =>
      intro l hl
      rcases List.eq_nil_or_concat l with rfl | ⟨m, b, rfl⟩
      · rfl
      · rcases List.eq_nil_or_concat m with rfl | ⟨q, a, rfl⟩
        · rfl
        · have e : (q.concat a).concat b = q ++ [a, b] := by simp
          have e2 : q.concat a = q ++ [a] := by simp
          rw [e, turned_snoc, ih (q ++ [a]) (by simp at hl ⊢; omega), show q ++ [a, b] = (q ++ [a]) ++ [b] by simp, List.foldl_append (l := q ++ [a])]; rfl
  exact fun l => key l.length l rfl
theorem turned_isT (l : List Int) : isT (turned l) := by
  have := rev_isT (foldl_isT l [] trivial)
  rw [← turned_fold, List.reverse_reverse] at this
  exact this
theorem turned_self {l : List Int} (h : isT l) : turned l = l := by
  have := foldl_self l [] (by rw [List.append_nil]; exact rev_isT h)
  rw [← turned_fold, List.append_nil] at this
  have := congrArg List.reverse this
  rw [List.reverse_reverse, List.reverse_reverse] at this
  exact this
theorem turned_turned (l : List Int) : turned (turned l) = turned l := turned_self (turned_isT l)
/-! the whole way -/
def tv (l : List Int) : Int := (ranges l).sum
theorem tv_cons (a b : Int) (r : List Int) : tv (a :: b :: r) = ((b - a).natAbs : Int) + tv (b :: r) := by
  unfold tv ranges
  rw [w2, if_pos rfl, List.sum_cons]
theorem tv_snoc : ∀ (l : List Int) (a b : Int), tv (l ++ [a, b]) = tv (l ++ [a]) + ((b - a).natAbs : Int)
  | [], a, b => by simp [tv, ranges, w2]
  | [x], a, b => by simp [tv, ranges, w2]
  | x :: y :: l, a, b => by
    have ih := tv_snoc (y :: l) a b
    simp only [List.cons_append] at ih ⊢
    rw [tv_cons, tv_cons, ih]; omega
theorem tv_rev : ∀ l : List Int, tv l.reverse = tv l
  | [] => rfl
  | [a] => rfl
  | a :: b :: r => by
    have ih := tv_rev (b :: r)
    have e : (a :: b :: r).reverse = r.reverse ++ [b, a] := by simp
    have e2 : (b :: r).reverse = r.reverse ++ [b] := by simp
    rw [e2] at ih
    rw [e, tv_snoc, ih, tv_cons]; omega
theorem tv_psh {b : Int} {r : List Int} (h : isT (b :: r)) (v : Int) : tv (psh (b :: r) v) = tv (b :: r) + ((v - b).natAbs : Int) := by
  match r, h with
  | [], _ =>
    rw [psh_one]
    split
    · rename_i e; subst e; simp
    · rw [tv_cons]; omega
  | p :: r, h =>
    rw [psh_two]
    have := isT_ne h
    split
    · rename_i e; subst e; simp
    · split
      · rw [tv_cons]; omega
      · rename_i e d
        rw [tv_cons, tv_cons]
        unfold ext at d
        omega
theorem tv_fold : ∀ (l : List Int) (b : Int) (r : List Int), isT (b :: r) → tv (l.foldl psh (b :: r)) = tv (b :: r) + tv (b :: l)
  | [], b, r, h => by simp [tv, ranges, w2]
  | v :: l, b, r, h => by
    rw [List.foldl_cons]
    obtain ⟨t, e⟩ := psh_ne (b :: r) v
    have h2 := psh_isT h v
    have h3 := tv_psh h v
    rw [e] at h2 h3 ⊢
    rw [tv_fold l v t h2, h3, tv_cons]; omega
theorem tv_turned {l : List Int} (h : l ≠ []) : tv (turned l) = tv l := by
  rw [← tv_rev, turned_fold]
  cases l with
  | nil => exact absurd rfl h
  | cons a l =>
    rw [List.foldl_cons]
    show tv (l.foldl psh [a]) = _
    rw [tv_fold l a [] trivial]
    simp [tv, ranges, w2]
/-- turns turn -/
theorem isT_alt : ∀ {l : List Int}, isT l → (((rg 0 ((l.length : Int) - 2).toNat).filter fun k => decide (decide (gI l k < gI l (k + 1)) = decide (gI l (k + 1) < gI l (k + 2)))) = [])
  | [], _ => rfl
  | [_], _ => rfl
  | [_, _], _ => rfl
  | a :: b :: c :: r, h => by
    have ih := isT_alt h.2
    have e : (((a :: b :: c :: r).length : Int) - 2).toNat = r.length + 1 := by simp only [List.length_cons]; omega
    have e2 : (((b :: c :: r).length : Int) - 2).toNat = r.length := by simp only [List.length_cons]; omega
    rw [e2] at ih
    rw [e, rg_succ, List.filter_cons, if_neg]
    · have := rg_filter_shift (lo := 0) (n := r.length) (e := id) (e' := fun k => k + 1) (f := fun k => decide (decide (gI (a :: b :: c :: r) k < gI (a :: b :: c :: r) (k + 1)) = decide (gI (a :: b :: c :: r) (k + 1) < gI (a :: b :: c :: r) (k + 2))))
        (f' := fun k => decide (decide (gI (b :: c :: r) k < gI (b :: c :: r) (k + 1)) = decide (gI (b :: c :: r) (k + 1) < gI (b :: c :: r) (k + 2)))) (fun k h1 h2 => by
          rw [show k + 1 + 2 = (k + 2) + 1 by omega, gI_cons _ _ (by omega : 0 ≤ k), gI_cons _ _ (by omega : 0 ≤ k + 1), gI_cons _ _ (by omega : 0 ≤ k + 2)]) (fun k _ _ => rfl)
      rw [ih] at this
      simpa using this
    · show ¬ decide (decide (a < b) = decide (b < c)) = true
      have := h.1
      unfold ext at this
      rcases this with z | z
      · simp [z.1, show ¬ b < c by omega]
      · simp [z.2, show ¬ a < b by omega]
theorem w3_mem {p : Int → Int → Int → Bool} : ∀ {l : List Int} {x : Int}, x ∈ w3 p (fun _ b _ => b) l → x ∈ l
  | [], _, h => by cases h
  | [_], _, h => by cases h
  | [_, _], _, h => by cases h
  | a :: b :: c :: r, x, h => by
    unfold w3 at h
    split at h
    · rcases List.mem_cons.mp h with rfl | h
      · simp
      · exact List.mem_cons_of_mem _ (w3_mem h)
    · exact List.mem_cons_of_mem _ (w3_mem h)
theorem w2_mem {p : Int → Int → Bool} : ∀ {l : List Int} {x : Int}, x ∈ w2 p (fun _ b => b) l → x ∈ l
  | [], _, h => by cases h
  | [_], _, h => by cases h
  | a :: b :: r, x, h => by
    unfold w2 at h
    split at h
    · rcases List.mem_cons.mp h with rfl | h
      · simp
      · exact List.mem_cons_of_mem _ (w2_mem h)
    · exact List.mem_cons_of_mem _ (w2_mem h)
theorem turned_mem {l : List Int} {x : Int} (h : x ∈ turned l) : x ∈ l := by
  have hs : ∀ y, y ∈ single l → y ∈ l := fun y hy => by
    unfold single at hy
    rcases List.mem_append.mp hy with hy | hy
    · exact List.mem_of_mem_take hy
    · exact w2_mem hy
  unfold turned at h
  rcases List.mem_append.mp h with h | h
  · exact hs x (List.mem_of_mem_take h)
  · rcases List.mem_append.mp h with h | h
    · exact hs x (w3_mem h)
    · exact hs x (List.mem_of_mem_drop (List.mem_of_mem_drop h))
theorem rowOk_turned {ns : List Int} (h : RowOk ns) : RowOk (turned ns) := ⟨turned_ne h.1, Nat.le_trans (turned_len ns) h.2.1, fun x hx => h.2.2 x (turned_mem hx)⟩
end Rf

/-! taking out inner pairs: any order leads to the same end -/
namespace Rf
open Dl L2
def inr (a b c d : Int) : Prop := (b - c).natAbs ≤ (a - b).natAbs ∧ (b - c).natAbs ≤ (c - d).natAbs
instance (a b c d : Int) : Decidable (inr a b c d) := by unfold inr; exact inferInstance
theorem inr_rev {a b c d : Int} : inr a b c d ↔ inr d c b a := by unfold inr; omega
def mkc (b c : Int) : Int × Int := (min b c, max b c)
theorem mkc_comm (b c : Int) : mkc b c = mkc c b := by unfold mkc; rw [Int.min_comm, Int.max_comm]
inductive Red : List Int → Int × Int → List Int → Prop
  | here {a b c d : Int} {q : List Int} : inr a b c d → Red (a :: b :: c :: d :: q) (mkc b c) (a :: d :: q)
  | there {x : Int} {l l' : List Int} {p : Int × Int} : Red l p l' → Red (x :: l) p (x :: l')
theorem Red.head {l l' : List Int} {p : Int × Int} (h : Red l p l') : ∃ a m m', l = a :: m ∧ l' = a :: m' := by
  cases h with
  | here _ => exact ⟨_, _, _, rfl, rfl⟩
  | there _ => exact ⟨_, _, _, rfl, rfl⟩
theorem Red.len {l l' : List Int} {p : Int × Int} (h : Red l p l') : l.length = l'.length + 2 := by
  induction h with
  | here _ => simp
  | there _ ih => simp [ih]
theorem Red.app {l l' : List Int} {p : Int × Int} (h : Red l p l') (r : List Int) : Red (l ++ r) p (l' ++ r) := by
  induction h with
  | here i => exact .here i
  | there _ ih => exact .there ih
theorem Red.pre {l l' : List Int} {p : Int × Int} (h : Red l p l') : ∀ r : List Int, Red (r ++ l) p (r ++ l')
  | [] => h
  | x :: r => .there (Red.pre h r)
theorem Red.at (s : List Int) {a b c d : Int} (q : List Int) (h : inr a b c d) : Red (s ++ a :: b :: c :: d :: q) (mkc b c) (s ++ a :: d :: q) := (Red.here h).pre s
theorem Red.form {l l' : List Int} {p : Int × Int} (h : Red l p l') : ∃ s a b c d q, inr a b c d ∧ l = s ++ a :: b :: c :: d :: q ∧ l' = s ++ a :: d :: q ∧ p = mkc b c := by
  induction h with
  | here i => exact ⟨[], _, _, _, _, _, i, rfl, rfl, rfl⟩
  | @there x l l' p _ ih =>
    obtain ⟨s, a, b, c, d, q, i, rfl, rfl, rfl⟩ := ih
    exact ⟨x :: s, a, b, c, d, q, i, rfl, rfl, rfl⟩
theorem Red.rev {l l' : List Int} {p : Int × Int} (h : Red l p l') : Red l.reverse p l'.reverse := by
  obtain ⟨s, a, b, c, d, q, i, rfl, rfl, rfl⟩ := h.form
  have := Red.at q.reverse s.reverse (inr_rev.mp i)
  rw [mkc_comm] at this
  simpa using this
theorem inr_ext {a b c d : Int} (h1 : ext a b c) (h2 : ext b c d) (i : inr a b c d) : (a ≤ c ∧ c < b ∧ b ≤ d) ∨ (d ≤ b ∧ b < c ∧ c ≤ a) := by
  unfold ext at h1 h2; unfold inr at i; omega
theorem isT3 {a b c : Int} {r : List Int} : isT (a :: b :: c :: r) ↔ ext a b c ∧ isT (b :: c :: r) := Iff.rfl
theorem isT2 {a b : Int} : isT [a, b] ↔ a ≠ b := Iff.rfl
theorem isT_two {a d : Int} {q : List Int} (h : a ≠ d) (h2 : ∀ e r, q = e :: r → ext a d e) (h3 : isT (d :: q)) : isT (a :: d :: q) := by
  cases q with
  | nil => exact h
  | cons e r => exact ⟨h2 e r rfl, h3⟩
theorem Red.isT {l l' : List Int} {p : Int × Int} (h : Red l p l') (t : isT l) : Rf.isT l' := by
  induction h with
  | @here a b c d q i =>
    obtain ⟨e1, e2, t2⟩ := t
    have hh := inr_ext e1 e2 i
    refine isT_two (by unfold ext at *; omega) ?_ (isT_tail t2)
    rintro e r rfl
    have e3 := t2.1
    unfold ext at *; omega
  | @there x l l' p h ih =>
    have tl := ih (isT_tail t)
    cases h with
    | @here a b c d q i =>
      obtain ⟨e0, e1, e2, t2⟩ := t
      have hh := inr_ext e1 e2 i
      refine ⟨?_, tl⟩
      unfold ext at *; omega
    | @there y l l' p h =>
      obtain ⟨a, m, m', rfl, rfl⟩ := h.head
      exact ⟨t.1, tl⟩
/-- two ways out of one row meet again -/
theorem dia {l l1 l2 : List Int} {p1 p2 : Int × Int} (t : isT l) (h1 : Red l p1 l1) (h2 : Red l p2 l2) : (l1 = l2 ∧ p1 = p2) ∨ ∃ m, Red l1 p2 m ∧ Red l2 p1 m := by
  have key : ∀ {a b c d : Int} {q l2 : List Int} {p2 : Int × Int}, isT (a :: b :: c :: d :: q) → inr a b c d → Red (b :: c :: d :: q) p2 l2 → (a :: d :: q = a :: l2 ∧ mkc b c = p2) ∨ ∃ m, Red (a :: d :: q) p2 m ∧ Red (a :: l2) (mkc b c) m := by
    intro a b c d q l2 p2 t i h
    obtain ⟨e1, e2, t2⟩ := t
    have hh := inr_ext e1 e2 i
    cases h with
    | @here _ _ _ e q j =>
      left
      have e3 := t2.1
      have hj := inr_ext e2 e3 j
      have : b = d := by omega
      subst this
      exact ⟨rfl, mkc_comm _ _⟩
    | there h =>
      cases h with
      | @here _ _ e f q j =>
        right
        obtain ⟨e3, e4, t4⟩ := t2
        have hj := inr_ext e3 e4 j
        refine ⟨a :: f :: q, .here ?_, .here ?_⟩
        · unfold inr; omega
        · unfold inr; omega
      | there h =>
        obtain ⟨x, m, m', e, rfl⟩ := h.head
        cases e
        right
        exact ⟨a :: d :: m', .there h, .here i⟩
  induction h1 generalizing l2 p2 with
  | @here a b c d q i =>
    cases h2 with
    | here j => left; exact ⟨rfl, rfl⟩
    | there h => exact key t i h
  | @there x l l1 p1 h1 ih =>
    cases h2 with
    | @here a b c d q i =>
      rcases key t i h1 with ⟨e, f⟩ | ⟨m, r1, r2⟩
      · left; exact ⟨e.symm, f.symm⟩
      · right; exact ⟨m, r2, r1⟩
    | there h =>
      rcases ih (isT_tail t) h with ⟨rfl, rfl⟩ | ⟨m, r1, r2⟩
      · left; exact ⟨rfl, rfl⟩
      · right; exact ⟨x :: m, .there r1, .there r2⟩
inductive RS : List Int → List (Int × Int) → List Int → Prop
  | nil {l : List Int} : RS l [] l
  | cons {l m r : List Int} {p : Int × Int} {ps : List (Int × Int)} : Red l p m → RS m ps r → RS l (p :: ps) r
def Nf (l : List Int) : Prop := ∀ p l', ¬ Red l p l'
theorem RS.trans {l m r : List Int} {ps qs : List (Int × Int)} (h : RS l ps m) (k : RS m qs r) : RS l (ps ++ qs) r := by
  induction h with
  | nil => exact k
  | cons a _ ih => exact .cons a (ih k)
theorem RS.one {l m : List Int} {p : Int × Int} (h : Red l p m) : RS l [p] m := .cons h .nil
theorem RS.snoc {l m r : List Int} {ps : List (Int × Int)} {p : Int × Int} (h : RS l ps m) (k : Red m p r) : RS l (ps ++ [p]) r := h.trans (.one k)
theorem RS.isT {l r : List Int} {ps : List (Int × Int)} (h : RS l ps r) (t : isT l) : Rf.isT r := by
  induction h with
  | nil => exact t
  | cons a _ ih => exact ih (a.isT t)
theorem RS.len {l r : List Int} {ps : List (Int × Int)} (h : RS l ps r) : l.length = r.length + 2 * ps.length := by
  induction h with
  | nil => simp
  | cons a _ ih => have := a.len; simp; omega
theorem RS.app {l r : List Int} {ps : List (Int × Int)} (h : RS l ps r) (s : List Int) : RS (l ++ s) ps (r ++ s) := by
  induction h with
  | nil => exact .nil
  | cons a _ ih => exact .cons (a.app s) ih
theorem RS.pre {l r : List Int} {ps : List (Int × Int)} (h : RS l ps r) (s : List Int) : RS (s ++ l) ps (s ++ r) := by
  induction h with
  | nil => exact .nil
  | cons a _ ih => exact .cons (a.pre s) ih
theorem RS.rev {l r : List Int} {ps : List (Int × Int)} (h : RS l ps r) : RS l.reverse ps r.reverse := by
  induction h with
  | nil => exact .nil
  | cons a _ ih => exact .cons a.rev ih
theorem Nf.rev {l : List Int} (h : Nf l) : Nf l.reverse := fun p l' r => h p l'.reverse (by have := r.rev; rwa [List.reverse_reverse] at this)
theorem nf_ex : ∀ (n : Nat) (l : List Int), l.length ≤ n → ∃ ps r, RS l ps r ∧ Nf r
  | 0, l, h => ⟨[], l, .nil, fun p l' r => by have := r.len; omega⟩
  | n + 1, l, h => by
    by_cases q : ∃ p m, Red l p m
    · obtain ⟨p, m, r⟩ := q
      have := r.len
      obtain ⟨ps, r', h1, h2⟩ := nf_ex n m (by omega)
      exact ⟨p :: ps, r', .cons r h1, h2⟩
    · exact ⟨[], l, .nil, fun p m r => q ⟨p, m, r⟩⟩
/-- one end only, and the same cycles -/
theorem RS.uniq : ∀ (n : Nat) {l r r' : List Int} {ps ps' : List (Int × Int)}, l.length ≤ n → Rf.isT l → RS l ps r → Nf r → RS l ps' r' → Nf r' → r = r' ∧ ps.Perm ps' := by
  intro n
  induction n with
  | zero =>
    intro l r r' ps ps' hn t h1 n1 h2 n2
    cases h1 with
    | nil =>
      cases h2 with
      | nil => exact ⟨rfl, .refl _⟩
      | cons a _ => exact absurd a (n1 _ _)
    | cons a _ => have := a.len; omega
  | succ n ih =>
    intro l r r' ps ps' hn t h1 n1 h2 n2
    cases h1 with
    | nil =>
      cases h2 with
      | nil => exact ⟨rfl, .refl _⟩
      | cons a _ => exact absurd a (n1 _ _)
    | @cons _ m _ p ps a k1 =>
      cases h2 with
      | nil => exact absurd a (n2 _ _)
      | @cons _ m' _ p' ps' b k2 =>
        have la := a.len
        have lb := b.len
        rcases dia t a b with ⟨rfl, rfl⟩ | ⟨x, ra, rb⟩
        · obtain ⟨e, f⟩ := ih (by omega) (a.isT t) k1 n1 k2 n2
          exact ⟨e, f.cons _⟩
        · obtain ⟨es, y, ry, ny⟩ := nf_ex x.length x (Nat.le_refl _)
          obtain ⟨e1, f1⟩ := ih (by omega) (a.isT t) k1 n1 (.cons ra ry) ny
          obtain ⟨e2, f2⟩ := ih (by omega) (b.isT t) k2 n2 (.cons rb ry) ny
          refine ⟨e1.trans e2.symm, ((f1.cons p).trans (.swap _ _ _)).trans (f2.cons p').symm⟩
/-- the end and the cycles of a row that turns -/
noncomputable def nrm (l : List Int) : List (Int × Int) × List Int := Classical.choose (show ∃ x : List (Int × Int) × List Int, RS l x.1 x.2 ∧ Nf x.2 from let ⟨ps, r, h⟩ := nf_ex l.length l (Nat.le_refl _); ⟨(ps, r), h⟩)
noncomputable def cyc (l : List Int) : List (Int × Int) := srtC (nrm l).1
noncomputable def rst (l : List Int) : List Int := (nrm l).2
theorem nrm_rs (l : List Int) : RS l (nrm l).1 (rst l) := (Classical.choose_spec (show ∃ x : List (Int × Int) × List Int, RS l x.1 x.2 ∧ Nf x.2 from let ⟨ps, r, h⟩ := nf_ex l.length l (Nat.le_refl _); ⟨(ps, r), h⟩)).1
theorem rst_nf (l : List Int) : Nf (rst l) := (Classical.choose_spec (show ∃ x : List (Int × Int) × List Int, RS l x.1 x.2 ∧ Nf x.2 from let ⟨ps, r, h⟩ := nf_ex l.length l (Nat.le_refl _); ⟨(ps, r), h⟩)).2
theorem cyc_is {l r : List Int} {ps : List (Int × Int)} (t : isT l) (h : RS l ps r) (n : Nf r) : srtC ps = cyc l ∧ r = rst l := by
  obtain ⟨e, f⟩ := RS.uniq l.length (Nat.le_refl _) t h n (nrm_rs l) (rst_nf l)
  exact ⟨srtC_congr f, e⟩
theorem cyc_perm (l : List Int) : (cyc l).Perm (nrm l).1 := srtC_perm _
/-- on the way: what was taken out, and what will be -/
theorem cyc_step {l m : List Int} {ps : List (Int × Int)} (t : isT l) (h : RS l ps m) : srtC (ps ++ cyc m) = cyc l ∧ rst m = rst l := by
  obtain ⟨e, f⟩ := cyc_is t (h.trans (nrm_rs m)) (rst_nf m)
  refine ⟨?_, f⟩
  rw [← e]
  exact srtC_congr ((cyc_perm m).append_left ps)
theorem cyc_nf {l : List Int} (t : isT l) (h : Nf l) : cyc l = [] ∧ rst l = l := by
  obtain ⟨e, f⟩ := cyc_is t .nil h
  exact ⟨e.symm, f.symm⟩
theorem nf_of_cyc {l : List Int} (h : cyc l = []) : Nf l ∧ rst l = l := by
  have p := cyc_perm l
  rw [h] at p
  have h2 : (nrm l).1 = [] := p.symm.eq_nil
  have r := nrm_rs l
  rw [h2] at r
  have n := rst_nf l
  generalize rst l = x at r n
  cases r
  exact ⟨n, rfl⟩
theorem nf_of_rst {l : List Int} (h : rst l = l) : Nf l := h ▸ rst_nf l
theorem rst_isT {l : List Int} (t : isT l) : isT (rst l) := (nrm_rs l).isT t
theorem rs_len (l : List Int) : l.length = (rst l).length + 2 * (cyc l).length := by
  rw [(nrm_rs l).len, (cyc_perm l).length_eq]
theorem RS.ne {l r : List Int} {ps : List (Int × Int)} (h : RS l ps r) (hl : l ≠ []) : r ≠ [] := by
  induction h with
  | nil => exact hl
  | cons a _ ih => obtain ⟨x, m, m', rfl, rfl⟩ := a.head; exact ih (by simp)
theorem RS.hd {l r : List Int} {ps : List (Int × Int)} (h : RS l ps r) : r.head? = l.head? := by
  induction h with
  | nil => rfl
  | cons a _ ih => obtain ⟨x, m, m', rfl, rfl⟩ := a.head; exact ih
theorem RS.last {l r : List Int} {ps : List (Int × Int)} (h : RS l ps r) : r.getLast? = l.getLast? := by
  have := h.rev.hd
  rwa [List.head?_reverse, List.head?_reverse] at this
theorem Red.sub {l r : List Int} {p : Int × Int} (h : Red l p r) : r.Sublist l := by
  induction h with
  | here _ => exact (((List.Sublist.refl _).cons _).cons _).cons₂ _
  | there _ ih => exact ih.cons₂ _
theorem RS.sub {l r : List Int} {ps : List (Int × Int)} (h : RS l ps r) : r.Sublist l := by
  induction h with
  | nil => exact .refl _
  | cons a _ ih => exact ih.trans a.sub
theorem Red.cmem {l r : List Int} {p : Int × Int} (h : Red l p r) : p.1 ∈ l ∧ p.2 ∈ l := by
  obtain ⟨s, a, b, c, d, q, i, rfl, rfl, rfl⟩ := h.form
  unfold mkc
  constructor
  · rcases Int.min_def b c ▸ (by split <;> simp : (if b ≤ c then b else c) = b ∨ (if b ≤ c then b else c) = c) with e | e <;> simp [e]
  · rcases Int.max_def b c ▸ (by split <;> simp : (if b ≤ c then c else b) = b ∨ (if b ≤ c then c else b) = c) with e | e <;> simp [e]
theorem RS.cmem {l r : List Int} {ps : List (Int × Int)} (h : RS l ps r) : ∀ p ∈ ps, p.1 ∈ l ∧ p.2 ∈ l := by
  induction h with
  | nil => intro p hp; cases hp
  | cons a _ ih =>
    intro p hp
    rcases List.mem_cons.mp hp with rfl | hp
    · exact a.cmem
    · exact ⟨a.sub.subset (ih p hp).1, a.sub.subset (ih p hp).2⟩
theorem Red.lt {l r : List Int} {p : Int × Int} (t : Rf.isT l) (h : Red l p r) : p.1 < p.2 := by
  induction h with
  | @here a b c d q i => obtain ⟨e1, _⟩ := t; unfold ext at e1; show min b c < max b c; omega
  | there _ ih => exact ih (isT_tail t)
theorem RS.lt {l r : List Int} {ps : List (Int × Int)} (t : Rf.isT l) (h : RS l ps r) : ∀ p ∈ ps, p.1 < p.2 := by
  induction h with
  | nil => intro p hp; cases hp
  | cons a _ ih =>
    intro p hp
    rcases List.mem_cons.mp hp with rfl | hp
    · exact a.lt t
    · exact ih (a.isT t) p hp
theorem cyc_mem {l : List Int} {p : Int × Int} (h : p ∈ cyc l) : p.1 ∈ l ∧ p.2 ∈ l := (nrm_rs l).cmem p ((cyc_perm l).mem_iff.mp h)
theorem cyc_lt {l : List Int} (t : isT l) {p : Int × Int} (h : p ∈ cyc l) : p.1 < p.2 := (nrm_rs l).lt t p ((cyc_perm l).mem_iff.mp h)
/-- the whole way -/
theorem Red.tv {l r : List Int} {p : Int × Int} (t : Rf.isT l) (h : Red l p r) : tv l = Rf.tv r + 2 * (p.2 - p.1) := by
  induction h with
  | @here a b c d q i =>
    obtain ⟨e1, e2, t2⟩ := t
    have hh := inr_ext e1 e2 i
    rw [tv_cons, tv_cons, tv_cons, tv_cons a d]
    show _ = _ + 2 * (max b c - min b c)
    omega
  | there h ih =>
    have := ih (isT_tail t)
    obtain ⟨x, m, m', rfl, rfl⟩ := h.head
    rw [tv_cons, tv_cons]
    omega
def csum (ps : List (Int × Int)) : Int := (ps.map fun p => p.2 - p.1).sum
theorem sum_perm {l m : List Int} (h : l.Perm m) : l.sum = m.sum := by
  induction h with
  | nil => rfl
  | cons x _ ih => simp [ih]
  | swap x y l => simp; omega
  | trans _ _ i1 i2 => exact i1.trans i2
theorem RS.tv {l r : List Int} {ps : List (Int × Int)} (t : Rf.isT l) (h : RS l ps r) : tv l = Rf.tv r + 2 * csum ps := by
  induction h with
  | nil => simp [csum]
  | cons a _ ih =>
    have := ih (a.isT t)
    have h2 := a.tv t
    unfold csum at *
    simp only [List.map_cons, List.sum_cons]
    omega
theorem cyc_tv {l : List Int} (t : isT l) : tv l = tv (rst l) + 2 * csum (cyc l) := by
  rw [(nrm_rs l).tv t]
  unfold csum
  rw [sum_perm ((cyc_perm l).map _)]
/-- the ends stay -/
theorem Red.low {l r : List Int} {p : Int × Int} (t : Rf.isT l) (h : Red l p r) : ∀ x ∈ l, (∃ y ∈ r, y ≤ x) ∧ (∃ y ∈ r, x ≤ y) := by
  induction h with
  | @here a b c d q i =>
    obtain ⟨e1, e2, t2⟩ := t
    have hh := inr_ext e1 e2 i
    intro x hx
    simp only [List.mem_cons] at hx
    rcases hx with rfl | rfl | rfl | rfl | hx
    · exact ⟨⟨x, by simp, Int.le_refl _⟩, ⟨x, by simp, Int.le_refl _⟩⟩
    · rcases hh with hh | hh
      · exact ⟨⟨a, by simp, by omega⟩, ⟨d, by simp, by omega⟩⟩
      · exact ⟨⟨d, by simp, by omega⟩, ⟨a, by simp, by omega⟩⟩
    · rcases hh with hh | hh
      · exact ⟨⟨a, by simp, by omega⟩, ⟨d, by simp, by omega⟩⟩
      · exact ⟨⟨d, by simp, by omega⟩, ⟨a, by simp, by omega⟩⟩
    · exact ⟨⟨x, by simp, Int.le_refl _⟩, ⟨x, by simp, Int.le_refl _⟩⟩
    · exact ⟨⟨x, by simp [hx], Int.le_refl _⟩, ⟨x, by simp [hx], Int.le_refl _⟩⟩
  | there _ ih =>
    intro x hx
    rcases List.mem_cons.mp hx with rfl | hx
    · exact ⟨⟨x, by simp, Int.le_refl _⟩, ⟨x, by simp, Int.le_refl _⟩⟩
    · obtain ⟨⟨y, hy, e⟩, ⟨z, hz, f⟩⟩ := ih (isT_tail t) x hx
      exact ⟨⟨y, List.mem_cons_of_mem _ hy, e⟩, ⟨z, List.mem_cons_of_mem _ hz, f⟩⟩
theorem RS.low {l r : List Int} {ps : List (Int × Int)} (t : Rf.isT l) (h : RS l ps r) : ∀ x ∈ l, (∃ y ∈ r, y ≤ x) ∧ (∃ y ∈ r, x ≤ y) := by
  induction h with
  | nil => intro x hx; exact ⟨⟨x, hx, Int.le_refl _⟩, ⟨x, hx, Int.le_refl _⟩⟩
  | cons a _ ih =>
    intro x hx
    obtain ⟨⟨y, hy, e⟩, ⟨z, hz, f⟩⟩ := a.low t x hx
    obtain ⟨⟨y', hy', e'⟩, _⟩ := ih (a.isT t) y hy
    obtain ⟨_, ⟨z', hz', f'⟩⟩ := ih (a.isT t) z hz
    exact ⟨⟨y', hy', by omega⟩, ⟨z', hz', by omega⟩⟩
theorem lmin_of {l r : List Int} (hr : r ≠ []) (sub : ∀ x ∈ r, x ∈ l) (low : ∀ x ∈ l, (∃ y ∈ r, y ≤ x) ∧ (∃ y ∈ r, x ≤ y)) : lmin r = lmin l ∧ lmax r = lmax l := by
  constructor
  · apply lmin_uniq
    · exact sub _ (lmin_mem hr)
    · intro y hy
      obtain ⟨z, hz, e⟩ := (low y hy).1
      have := lmin_le hz
      omega
  · apply lmax_uniq
    · exact sub _ (lmax_mem hr)
    · intro y hy
      obtain ⟨z, hz, e⟩ := (low y hy).2
      have := le_lmax hz
      omega
theorem rst_ends {l : List Int} (t : isT l) (h : l ≠ []) : lmin (rst l) = lmin l ∧ lmax (rst l) = lmax l :=
  lmin_of ((nrm_rs l).ne h) (fun x hx => (nrm_rs l).sub.subset hx) ((nrm_rs l).low t)
theorem psh_low {s : List Int} {v : Int} : ∀ x ∈ v :: s, (∃ y ∈ psh s v, y ≤ x) ∧ (∃ y ∈ psh s v, x ≤ y) := by
  intro x hx
  have self : ∀ {r : List Int}, x ∈ r → (∃ y ∈ r, y ≤ x) ∧ (∃ y ∈ r, x ≤ y) := fun h => ⟨⟨x, h, Int.le_refl _⟩, ⟨x, h, Int.le_refl _⟩⟩
  cases s with
  | nil => exact self hx
  | cons b s =>
    cases s with
    | nil =>
      rw [psh_one]
      split
      · rename_i e; subst e; apply self; simpa using hx
      · exact self hx
    | cons p r =>
      rw [psh_two]
      split
      · rename_i e; subst e; apply self; simpa using hx
      · split
        · exact self hx
        · rename_i h1 h2
          simp only [List.mem_cons] at hx
          rcases hx with rfl | rfl | rfl | hx
          · apply self; simp
          · unfold ext at h2
            by_cases hpv : p ≤ v
            · exact ⟨⟨p, by simp, by omega⟩, ⟨v, by simp, by omega⟩⟩
            · exact ⟨⟨v, by simp, by omega⟩, ⟨p, by simp, by omega⟩⟩
          · apply self; simp
          · apply self; simp [hx]
theorem fold_low : ∀ (l s : List Int), ∀ x ∈ l ++ s, (∃ y ∈ l.foldl psh s, y ≤ x) ∧ (∃ y ∈ l.foldl psh s, x ≤ y)
  | [], s => fun x hx => ⟨⟨x, hx, Int.le_refl _⟩, ⟨x, hx, Int.le_refl _⟩⟩
  | v :: l, s => by
    intro x hx
    have ih := fold_low l (psh s v)
    have h1 : (∃ y ∈ l ++ psh s v, y ≤ x) ∧ (∃ y ∈ l ++ psh s v, x ≤ y) := by
      simp only [List.cons_append, List.mem_cons, List.mem_append] at hx
      by_cases hl : x ∈ l
      · exact ⟨⟨x, by simp [hl], Int.le_refl _⟩, ⟨x, by simp [hl], Int.le_refl _⟩⟩
      · obtain ⟨⟨y, hy, e⟩, ⟨z, hz, f⟩⟩ := psh_low (s := s) (v := v) x (by rcases hx with h | h | h; (· simp [h]); (· exact absurd h hl); (· simp [h]))
        exact ⟨⟨y, by simp [hy], e⟩, ⟨z, by simp [hz], f⟩⟩
    obtain ⟨⟨y, hy, e⟩, ⟨z, hz, f⟩⟩ := h1
    obtain ⟨⟨y', hy', e'⟩, _⟩ := ih y hy
    obtain ⟨_, ⟨z', hz', f'⟩⟩ := ih z hz
    exact ⟨⟨y', hy', Int.le_trans e' e⟩, ⟨z', hz', Int.le_trans f f'⟩⟩
theorem turned_low (l : List Int) : ∀ x ∈ l, (∃ y ∈ turned l, y ≤ x) ∧ (∃ y ∈ turned l, x ≤ y) := by
  intro x hx
  have := fold_low l [] x (by simpa using hx)
  rw [← turned_fold] at this
  simpa using this
theorem turned_ends {l : List Int} (h : l ≠ []) : lmin (turned l) = lmin l ∧ lmax (turned l) = lmax l :=
  lmin_of (turned_ne h) (fun x hx => turned_mem hx) (turned_low l)
theorem turned_last {l : List Int} : (turned l).getLast? = l.getLast? := by
  have h := turned_fold l
  rcases List.eq_nil_or_concat l with rfl | ⟨m, a, rfl⟩
  · rfl
  · rw [List.concat_eq_append, List.foldl_append] at h
    obtain ⟨t, e⟩ := psh_ne (m.foldl psh []) a
    simp only [List.foldl_cons, List.foldl_nil] at h
    rw [e] at h
    rw [← List.head?_reverse, List.concat_eq_append, h]
    simp
theorem turned_head {l : List Int} : (turned l).head? = l.head? := by
  cases l with
  | nil => rfl
  | cons a r =>
    obtain ⟨s, e⟩ := single_head a r
    unfold turned
    rw [e]
    simp
end Rf

/-! inner pairs by their place -/
namespace Rf
open Dl L2
theorem gI_at {α : Type} [Inhabited α] (s : List α) (a : α) (q : List α) : gI (s ++ a :: q) (s.length : Int) = a := by
  unfold gI
  rw [if_pos (by omega)]
  simp
theorem gI_atk {α : Type} [Inhabited α] (s : List α) (q : List α) (k : Nat) (a : α) (h : q[k]? = some a) {i : Int} (hi : i = s.length + k) : gI (s ++ q) i = a := by
  subst hi
  unfold gI
  rw [if_pos (by omega), List.getD_eq_getElem?_getD, List.getElem?_append_right (by omega)]
  rw [show ((s.length : Int) + k).toNat - s.length = k from by omega, h]; rfl
def pin (l : List Int) (k : Int) : Bool := decide (inr (gI l (k - 1)) (gI l k) (gI l (k + 1)) (gI l (k + 2)))
theorem pin_eq (l : List Int) (k : Int) : (decide (((gI l k - gI l (k + 1)).natAbs : Int) ≤ ((gI l (k - 1) - gI l k).natAbs : Int)) && decide (((gI l k - gI l (k + 1)).natAbs : Int) ≤ ((gI l (k + 1) - gI l (k + 2)).natAbs : Int))) = pin l k := by
  unfold pin
  rw [Bool.eq_iff_iff, Bool.and_eq_true, decide_eq_true_eq, decide_eq_true_eq, decide_eq_true_eq]
  unfold inr
  omega
def innerAt (l : List Int) (p : Int) : Bool := (decide (1 ≤ p) && decide (p ≤ (l.length : Int) - 3)) && pin l p
theorem split4 {l : List Int} {p : Int} (h1 : 1 ≤ p) (h2 : p ≤ (l.length : Int) - 3) : ∃ s a b c d q, l = s ++ a :: b :: c :: d :: q ∧ p = s.length + 1 := by
  obtain ⟨n, rfl⟩ : ∃ n : Nat, p = (n : Int) + 1 := ⟨(p - 1).toNat, by omega⟩
  have hn : n + 4 ≤ l.length := by omega
  refine ⟨l.take n, ?_⟩
  match hd : l.drop n with
  | a :: b :: c :: d :: q =>
    exact ⟨a, b, c, d, q, by rw [← hd, List.take_append_drop], by rw [List.length_take]; omega⟩
  | [] => have := congrArg List.length hd; simp at this; omega
  | [a] => have := congrArg List.length hd; simp at this; omega
  | [a, b] => have := congrArg List.length hd; simp at this; omega
  | [a, b, c] => have := congrArg List.length hd; simp at this; omega
theorem pin_at (s : List Int) (a b c d : Int) (q : List Int) : pin (s ++ a :: b :: c :: d :: q) (s.length + 1) = decide (inr a b c d) := by
  unfold pin
  rw [gI_atk s _ 0 a rfl (by omega), gI_atk s _ 1 b rfl (by omega), gI_atk s _ 2 c rfl (by omega), gI_atk s _ 3 d rfl (by omega)]
theorem innerAt_iff {l : List Int} {p : Int} : innerAt l p = true ↔ ∃ s a b c d q, l = s ++ a :: b :: c :: d :: q ∧ p = s.length + 1 ∧ inr a b c d := by
  constructor
  · intro h
    unfold innerAt at h
    simp only [Bool.and_eq_true, decide_eq_true_eq] at h
    obtain ⟨s, a, b, c, d, q, rfl, rfl⟩ := split4 h.1.1 h.1.2
    rw [pin_at, decide_eq_true_eq] at h
    exact ⟨s, a, b, c, d, q, rfl, rfl, h.2⟩
  · rintro ⟨s, a, b, c, d, q, rfl, rfl, i⟩
    unfold innerAt
    rw [pin_at]
    simp only [Bool.and_eq_true, decide_eq_true_eq, List.length_append, List.length_cons]
    exact ⟨⟨by omega, by omega⟩, i⟩
theorem innerAt_red {l : List Int} {k : Int} (h : innerAt l k = true) : Red l (mkc (gI l k) (gI l (k + 1))) (cut l none (some k) ++ cut l (some (k + 2)) none) := by
  obtain ⟨s, a, b, c, d, q, rfl, rfl, i⟩ := innerAt_iff.mp h
  rw [gI_atk s _ 1 b rfl (by omega), gI_atk s _ 2 c rfl (by omega)]
  rw [show ((s.length : Int) + 1) = ((s.length + 1 : Nat) : Int) from by omega, cut_to]
  rw [show (((s.length + 1 : Nat) : Int) + 2) = ((s.length + 3 : Nat) : Int) from by omega, cut_from]
  have e1 : (s ++ a :: b :: c :: d :: q).take (s.length + 1) = s ++ [a] := by
    rw [List.take_append, List.take_of_length_le (by omega)]; simp
  have e2 : (s ++ a :: b :: c :: d :: q).drop (s.length + 3) = d :: q := by
    rw [List.drop_append]; simp
  rw [e1, e2, List.append_assoc]
  exact Red.at s q i
theorem red_innerAt {l l' : List Int} {p : Int × Int} (h : Red l p l') : ∃ k, innerAt l k = true := by
  obtain ⟨s, a, b, c, d, q, i, rfl, rfl, rfl⟩ := h.form
  exact ⟨_, innerAt_iff.mpr ⟨s, a, b, c, d, q, rfl, rfl, i⟩⟩
theorem nf_inner {l : List Int} : Nf l ↔ ∀ k, innerAt l k = false := by
  constructor
  · intro h k
    cases e : innerAt l k with
    | false => rfl
    | true => exact absurd (innerAt_red e) (h _ _)
  · intro h p l' r
    obtain ⟨k, e⟩ := red_innerAt r
    rw [h k] at e; cases e
theorem Nf.pre {x y : List Int} (h : Nf (x ++ y)) : Nf x := fun p l' r => h _ _ (r.app y)
theorem Nf.suf {x y : List Int} (h : Nf (x ++ y)) : Nf y := fun p l' r => h _ _ (r.pre x)
theorem nf_short {l : List Int} (h : l.length < 4) : Nf l := fun p l' r => by
  obtain ⟨s, a, b, c, d, q, i, rfl, rfl, rfl⟩ := r.form
  simp at h; omega
/-- the stack: one more value, or an inner pair gone -/
theorem nf_push {s : List Int} (h : Nf s.dropLast) (hb : (decide (4 ≤ s.length) && innerAt s ((s.length : Int) - 3)) = false) : Nf s := by
  intro p l' r
  obtain ⟨s, a, b, c, d, q, i, rfl, rfl, rfl⟩ := r.form
  by_cases hq : q = []
  · subst hq
    have h1 : innerAt (s ++ [a, b, c, d]) (((s ++ [a, b, c, d]).length : Int) - 3) = true := innerAt_iff.mpr ⟨s, a, b, c, d, [], rfl, by simp; omega, i⟩
    rw [h1, Bool.and_true, decide_eq_false_iff_not] at hb
    simp at hb
  · refine h (mkc b c) (s ++ a :: d :: q.dropLast) ?_
    have : (s ++ a :: b :: c :: d :: q).dropLast = s ++ a :: b :: c :: d :: q.dropLast := by
      rw [List.dropLast_append_of_ne_nil (by simp)]
      simp [List.dropLast_cons_of_ne_nil, hq]
    rw [this]
    exact Red.at s _ i
theorem push_step {s : List Int} (h : Nf s.dropLast) (hb : (decide (4 ≤ s.length) && innerAt s ((s.length : Int) - 3)) = true) :
    Red s (mkc (gI s (-3)) (gI s (-2))) (cut s none (some (-3)) ++ cut s (some (-1)) none) ∧ Nf (cut s none (some (-3)) ++ cut s (some (-1)) none).dropLast := by
  rw [Bool.and_eq_true, decide_eq_true_eq] at hb
  obtain ⟨hl, hi⟩ := hb
  obtain ⟨q, a, b, c, d, r, e, hk, i⟩ := innerAt_iff.mp hi
  have hr : r = [] := by
    have := congrArg List.length e
    simp at this
    exact List.length_eq_zero_iff.mp (by omega)
  subst hr
  subst e
  have g1 : gI (q ++ [a, b, c, d]) (-3) = b := by
    unfold gI; rw [if_neg (by omega)]; simp
    rw [show (-3 + ((q.length : Int) + 4)).toNat = q.length + 1 from by omega]; simp
  have g2 : gI (q ++ [a, b, c, d]) (-2) = c := by
    unfold gI; rw [if_neg (by omega)]; simp
    rw [show (-2 + ((q.length : Int) + 4)).toNat = q.length + 2 from by omega]; simp
  have c1 : cut (q ++ [a, b, c, d]) none (some (-3)) = q ++ [a] := by
    rw [show (-3 : Int) = -((3 : Nat) : Int) from rfl, cut_but _ 3 (by omega)]
    rw [show (q ++ [a, b, c, d]).length - 3 = q.length + 1 from by simp, List.take_append, List.take_of_length_le (by omega)]; simp
  have c2 : cut (q ++ [a, b, c, d]) (some (-1)) none = [d] := by
    rw [show (-1 : Int) = -((1 : Nat) : Int) from rfl, cut_last _ 1 (by omega)]
    simp [List.drop_append]
  rw [g1, g2, c1, c2]
  constructor
  · have := Red.at q [] i
    simpa using this
  · rw [List.dropLast_concat]
    have e3 : (q ++ [a, b, c, d]).dropLast = (q ++ [a]) ++ [b, c] := by
      rw [List.dropLast_append_of_ne_nil (by simp)]; simp
    rw [e3] at h
    exact h.pre
/-- all places -/
def pairs (l : List Int) : List Int := (rg 1 ((l.length : Int) - 2 - 1).toNat).filter (pin l)
theorem mem_rg {lo k : Int} {n : Nat} : k ∈ rg lo n ↔ lo ≤ k ∧ k < lo + n := by
  unfold rg
  rw [List.mem_map]
  constructor
  · rintro ⟨i, hi, rfl⟩; rw [List.mem_range] at hi; omega
  · intro h; exact ⟨(k - lo).toNat, by rw [List.mem_range]; omega, by omega⟩
theorem mem_pairs {l : List Int} {k : Int} : k ∈ pairs l ↔ innerAt l k = true := by
  unfold pairs innerAt
  rw [List.mem_filter, mem_rg]
  simp only [Bool.and_eq_true, decide_eq_true_eq]
  constructor
  · rintro ⟨⟨h1, h2⟩, h3⟩; exact ⟨⟨h1, by omega⟩, h3⟩
  · rintro ⟨⟨h1, h2⟩, h3⟩; exact ⟨⟨h1, by omega⟩, h3⟩
theorem pairs_nil {l : List Int} : pairs l = [] ↔ Nf l := by
  rw [nf_inner, List.eq_nil_iff_forall_not_mem]
  constructor
  · intro h k
    cases e : innerAt l k with
    | false => rfl
    | true => exact absurd (mem_pairs.mpr e) (h k)
  · intro h k hk; rw [mem_pairs, h k] at hk; cases hk
theorem pairs_in {l : List Int} {k : Int} (h : k ∈ pairs l) : 1 ≤ k ∧ k ≤ (l.length : Int) - 3 := by
  rw [mem_pairs] at h
  unfold innerAt at h
  simp only [Bool.and_eq_true, decide_eq_true_eq] at h
  exact h.1
theorem pairs_len (l : List Int) : (pairs l).length ≤ l.length := by
  unfold pairs
  refine Nat.le_trans (List.length_filter_le _ _) ?_
  unfold rg; simp; omega
theorem pairs_last {l : List Int} (h : pairs l ≠ []) : gI (pairs l) (-1) ∈ pairs l := gI_mem (by have := List.length_pos_iff.mpr h; omega) (by have := List.length_pos_iff.mpr h; omega)
end Rf

/-! rows read backwards; rows joined; rests -/
namespace Rf
open Dl L2
theorem tsn_cons (x b c : Int) (m : List Int) : tsn (x :: b :: c :: m) = x :: (if turnp x b c then tsn (b :: c :: m) else (tsn (b :: c :: m)).tail) := by
  unfold tsn tin
  simp only [w3, List.take_succ_cons, List.take_zero, List.drop_succ_cons, List.drop_zero, List.length_cons]
  split <;> simp
theorem tsn_dirF : ∀ (m : List Int) (b c : Int), adj (b :: c :: m) → ∃ p r, tsn (b :: c :: m) = b :: p :: r ∧ ((b < p ∧ b < c) ∨ (p < b ∧ c < b))
  | [], b, c, h => ⟨c, [], rfl, by have := h.1; omega⟩
  | d :: m, b, c, h => by
    obtain ⟨p, r, e, f⟩ := tsn_dirF m c d h.2
    have h1 := h.1
    have h2 := h.2.1
    rw [tsn_cons, e]
    by_cases ht : turnp b c d = true
    · rw [if_pos ht]
      exact ⟨c, p :: r, rfl, by omega⟩
    · rw [if_neg ht]
      refine ⟨p, r, rfl, ?_⟩
      unfold turnp at ht
      simp only [Bool.not_eq_true', decide_eq_false_iff_not, Decidable.not_not, decide_eq_decide] at ht
      omega
theorem tsn_psh {x b : Int} {m : List Int} (h : adj (x :: b :: m)) : tsn (x :: b :: m) = psh (tsn (b :: m)) x := by
  cases m with
  | nil =>
    show [x, b] = psh [b] x
    rw [psh_one, if_neg (by have := h.1; omega)]
  | cons c m =>
    obtain ⟨p, r, e, f⟩ := tsn_dirF m b c h.2
    have h1 := h.1
    have h2 := h.2.1
    rw [tsn_cons, e, psh_two, if_neg (c := b = x) (by omega)]
    by_cases ht : turnp x b c = true
    · rw [if_pos ht, if_pos]
      unfold turnp at ht
      simp only [Bool.not_eq_true', decide_eq_false_iff_not, decide_eq_decide] at ht
      unfold ext; omega
    · rw [if_neg ht, if_neg]
      · rfl
      · unfold turnp at ht
        simp only [Bool.not_eq_true', decide_eq_false_iff_not, Decidable.not_not, decide_eq_decide] at ht
        unfold ext; omega
theorem tsn_hd (a : Int) (m : List Int) : ∃ r, tsn (a :: m) = a :: r := ⟨_, rfl⟩
theorem psh_same {b : Int} {r : List Int} : psh (b :: r) b = b :: r := by
  cases r with
  | nil => rw [psh_one, if_pos rfl]
  | cons p r => rw [psh_two, if_pos rfl]
theorem turned_cons (x : Int) (l : List Int) : turned (x :: l) = psh (turned l) x := by
  cases l with
  | nil => rfl
  | cons b r =>
    rw [turned_tsn, turned_tsn, single_cc]
    obtain ⟨s, e⟩ := single_head b r
    by_cases h : b = x
    · rw [if_pos h, e]
      obtain ⟨t, e2⟩ := tsn_hd b s
      rw [e2, ← h, psh_same]
    · rw [if_neg h, e, tsn_psh]
      have := single_adj (b :: r)
      rw [e] at this
      exact ⟨by omega, this⟩
theorem turned_foldr : ∀ l : List Int, turned l = l.reverse.foldl psh []
  | [] => rfl
  | x :: l => by rw [turned_cons, turned_foldr l, List.reverse_cons, List.foldl_append]; rfl
theorem turned_rev (l : List Int) : turned l.reverse = (turned l).reverse := by
  rw [turned_foldr, List.reverse_reverse, turned_fold]
theorem turned_appL (a b : List Int) : turned (turned a ++ b) = turned (a ++ b) := by
  apply List.reverse_inj.mp
  rw [turned_fold, turned_fold, List.foldl_append, List.foldl_append, ← turned_fold (turned a), turned_turned, turned_fold a]
theorem turned_appR (a b : List Int) : turned (a ++ turned b) = turned (a ++ b) := by
  apply List.reverse_inj.mp
  rw [← turned_rev, ← turned_rev, List.reverse_append, List.reverse_append, ← turned_rev, turned_appL]
theorem red_psh {s s' : List Int} {c : Int × Int} (t : isT s) (h : Red s c s') (v : Int) : Red (psh s v) c (psh s' v) := by
  cases h with
  | @here a b c d q i =>
    obtain ⟨e1, e2, _⟩ := t
    have hh := inr_ext e1 e2 i
    rw [psh_two, psh_two]
    by_cases h1 : a = v
    · rw [if_pos h1, if_pos h1]; exact .here i
    · rw [if_neg h1, if_neg h1]
      unfold ext at e1 e2
      by_cases h2 : ext b a v
      · rw [if_pos h2, if_pos (by unfold ext at *; omega)]
        exact .there (.here i)
      · rw [if_neg h2, if_neg (by unfold ext at *; omega)]
        refine .here ?_
        unfold ext at h2; unfold inr at *; omega
  | @there a l l' p h =>
    obtain ⟨b, m, m', rfl, rfl⟩ := h.head
    rw [psh_two, psh_two]
    split
    · exact .there h
    · split
      · exact .there (.there h)
      · rename_i h1 h2
        have t1 := isT_tail t
        cases h with
        | @here _ b' c' d' q i =>
          have : (psh (a :: b :: b' :: c' :: d' :: q) v) = v :: b :: b' :: c' :: d' :: q := by rw [psh_two, if_neg h1, if_neg h2]
          exact .there (.here i)
        | there h' => exact .there (.there h')
theorem rs_fold : ∀ (b : List Int) {s s' : List Int} {cs : List (Int × Int)}, isT s → RS s cs s' → RS (b.foldl psh s) cs (b.foldl psh s')
  | [], _, _, _, _, h => h
  | v :: b, s, s', cs, t, h => by
    refine rs_fold b (psh_isT t v) ?_
    clear b
    induction h with
    | nil => exact .nil
    | cons a _ ih => exact .cons (red_psh t a v) (ih (a.isT t))
theorem rs_joinL {a r : List Int} {cs : List (Int × Int)} (h : RS (turned a) cs r) (b : List Int) : RS (turned (a ++ b)) cs (turned (r ++ b)) := by
  have tr := h.isT (turned_isT a)
  have h2 := rs_fold b (rev_isT (turned_isT a)) h.rev
  have e1 : b.foldl psh (turned a).reverse = (turned (a ++ b)).reverse := by rw [turned_fold, turned_fold, List.foldl_append]
  have e2 : b.foldl psh r.reverse = (turned (r ++ b)).reverse := by rw [turned_fold (r ++ b), List.foldl_append, ← turned_fold r, turned_self tr]
  rw [e1, e2] at h2
  have h3 := h2.rev
  rwa [List.reverse_reverse, List.reverse_reverse] at h3
theorem rs_joinR {b r : List Int} {cs : List (Int × Int)} (h : RS (turned b) cs r) (a : List Int) : RS (turned (a ++ b)) cs (turned (a ++ r)) := by
  have h1 : RS (turned b.reverse) cs r.reverse := by rw [turned_rev]; exact h.rev
  have h2 := (rs_joinL h1 a.reverse).rev
  rw [← List.reverse_append, ← List.reverse_append, turned_rev, turned_rev, List.reverse_reverse, List.reverse_reverse] at h2
  exact h2
/-- a row's cycles and rest -/
noncomputable abbrev cy_ (l : List Int) : List (Int × Int) := cyc (turned l)
noncomputable abbrev re_ (l : List Int) : List Int := rst (turned l)
theorem cyc_step' {l m : List Int} {ps : List (Int × Int)} (t : isT l) (h : RS l ps m) : (ps ++ cyc m).Perm (cyc l) ∧ rst m = rst l := by
  obtain ⟨e, f⟩ := cyc_step t h
  exact ⟨by rw [← e]; exact (srtC_perm _).symm, f⟩
theorem joinL (a b : List Int) : (cy_ a ++ cy_ (re_ a ++ b)).Perm (cy_ (a ++ b)) ∧ re_ (re_ a ++ b) = re_ (a ++ b) := by
  obtain ⟨e, f⟩ := cyc_step' (turned_isT (a ++ b)) (rs_joinL (nrm_rs (turned a)) b)
  exact ⟨((cyc_perm (turned a)).append_right _).trans e, f⟩
theorem joinR (a b : List Int) : (cy_ b ++ cy_ (a ++ re_ b)).Perm (cy_ (a ++ b)) ∧ re_ (a ++ re_ b) = re_ (a ++ b) := by
  obtain ⟨e, f⟩ := cyc_step' (turned_isT (a ++ b)) (rs_joinR (nrm_rs (turned b)) a)
  exact ⟨((cyc_perm (turned b)).append_right _).trans e, f⟩
theorem join2 (a b : List Int) : (cy_ a ++ cy_ b ++ cy_ (re_ a ++ re_ b)).Perm (cy_ (a ++ b)) ∧ re_ (re_ a ++ re_ b) = re_ (a ++ b) := by
  obtain ⟨e1, f1⟩ := joinL a b
  obtain ⟨e2, f2⟩ := joinR (re_ a) b
  refine ⟨?_, f2.trans f1⟩
  rw [List.append_assoc]
  exact (e2.append_left _).trans e1
theorem srtC_of {l m : List (Int × Int)} (h : l.Perm m) (s : srtC m = m) : srtC l = m := (srtC_congr h).trans s
theorem cyc_srt (l : List Int) : srtC (cyc l) = cyc l := srtC_idem _
theorem re_isT (a : List Int) : isT (re_ a) := rst_isT (turned_isT a)
theorem re_nf (a : List Int) : Nf (re_ a) := rst_nf _
theorem re_ne {a : List Int} (h : a ≠ []) : re_ a ≠ [] := (nrm_rs _).ne (turned_ne h)
theorem re_len (a : List Int) : (re_ a).length ≤ a.length := Nat.le_trans (nrm_rs _).sub.length_le (turned_len a)
theorem re_mem {a : List Int} {x : Int} (h : x ∈ re_ a) : x ∈ a := turned_mem ((nrm_rs _).sub.subset h)
theorem rowOk_re {a : List Int} (h : RowOk a) : RowOk (re_ a) := ⟨re_ne h.1, Nat.le_trans (re_len a) h.2.1, fun x hx => h.2.2 x (re_mem hx)⟩
theorem turned_re (a : List Int) : turned (re_ a) = re_ a := turned_self (re_isT a)
theorem cy_re (a : List Int) : cy_ (re_ a) = [] := by unfold cy_; rw [turned_re]; exact (cyc_nf (re_isT a) (re_nf a)).1
theorem re_re (a : List Int) : re_ (re_ a) = re_ a := by
  show rst (turned (re_ a)) = re_ a
  rw [turned_re]; exact (cyc_nf (re_isT a) (re_nf a)).2
theorem re_head {a : List Int} : (re_ a).head? = a.head? := (nrm_rs _).hd.trans turned_head
theorem re_last {a : List Int} : (re_ a).getLast? = a.getLast? := (nrm_rs _).last.trans turned_last
theorem cy_len (a : List Int) : (cy_ a).length ≤ a.length := by have := rs_len (turned a); have := turned_len a; unfold cy_; omega
/-- rests -/
noncomputable def restB (ns : List Int) : Bool := decide (turned ns = ns) && (cyc ns).isEmpty
theorem restB_iff {ns : List Int} : restB ns = true ↔ isT ns ∧ Nf ns := by
  unfold restB
  rw [Bool.and_eq_true, decide_eq_true_eq, List.isEmpty_iff]
  constructor
  · rintro ⟨h1, h2⟩
    have ht : isT ns := h1 ▸ turned_isT ns
    exact ⟨ht, (nf_of_cyc h2).1⟩
  · rintro ⟨h1, h2⟩
    exact ⟨turned_self h1, (cyc_nf h1 h2).1⟩
theorem restB_re (a : List Int) : restB (re_ a) = true := restB_iff.mpr ⟨re_isT a, re_nf a⟩
theorem restB_re_ {a : List Int} : restB a = true ↔ re_ a = a := by
  constructor
  · intro h
    obtain ⟨h1, h2⟩ := restB_iff.mp h
    show rst (turned a) = a
    rw [turned_self h1]; exact (cyc_nf h1 h2).2
  · intro h; rw [← h]; exact restB_re a
theorem restB_one (x : Int) : restB [x] = true := restB_iff.mpr ⟨trivial, nf_short (by simp)⟩
open PySem in
def isRestD (d : PyData) : Prop := ∃ ns, d = dI ns ∧ RowOk ns ∧ restB ns = true
open PySem Classical in
noncomputable def restD (d : PyData) : Bool := decide (isRestD d)
open PySem in
theorem restD_iff {d : PyData} : restD d = true ↔ isRestD d := by unfold restD; exact @decide_eq_true_iff _ (Classical.propDecidable _)
open PySem in
theorem dI_inj {a b : List Int} (h : dI a = dI b) : a = b := by
  have h : a.map PyData.int = b.map PyData.int := by unfold dI at h; exact PyData.list.inj h
  exact (List.map_inj_right (fun x y z => PyData.int.inj z)).mp h
theorem restD_dI {ns : List Int} (h : RowOk ns) : restD (dI ns) = restB ns := by
  rw [Bool.eq_iff_iff, restD_iff]
  constructor
  · rintro ⟨ms, e1, _, e2⟩; rw [dI_inj e1]; exact e2
  · intro e; exact ⟨ns, rfl, h, e⟩
open PySem in
theorem restD_no {d : PyData} (h : isRowD d = false) : restD d = false := by
  cases e : restD d with
  | false => rfl
  | true => obtain ⟨ns, rfl, k, _⟩ := restD_iff.mp e; rw [isRowD_dI k] at h; cases h
theorem gI_last (m : List Int) (x : Int) : gI (m ++ [x]) (-1) = x := by
  unfold gI
  rw [if_neg (by omega), List.length_append, List.length_singleton, show (-1 + ((m.length + 1 : Nat) : Int)).toNat = m.length from by omega]
  simp
theorem psh_last {b : Int} {r : List Int} : psh (b :: r) b = b :: r := psh_same
theorem turned_dup {x : Int} {r : List Int} (h : r.head? = some x) : turned ([x] ++ r) = turned r := by
  cases r with
  | nil => cases h
  | cons y r =>
    cases h
    show turned (x :: x :: r) = _
    rw [turned_cons x (x :: r)]
    obtain ⟨t, e⟩ : ∃ t, turned (x :: r) = x :: t := by
      have := turned_head (l := x :: r)
      cases q : turned (x :: r) with
      | nil => rw [q] at this; cases this
      | cons y t => rw [q] at this; cases this; exact ⟨t, rfl⟩
    rw [e, psh_same]
theorem turned_dupR {x : Int} {r : List Int} (h : r.getLast? = some x) : turned (r ++ [x]) = turned r := by
  apply List.reverse_inj.mp
  rw [← turned_rev, ← turned_rev, List.reverse_append]
  exact turned_dup (by rw [List.head?_reverse]; exact h)
end Rf

/-! small pairs taken out -/
namespace Rf
open Dl L2
abbrev wid (p : Int × Int) : Int := p.2 - p.1
theorem wid_mkc (b c : Int) : wid (mkc b c) = ((b - c).natAbs : Int) := by show max b c - min b c = _; omega
def NfL (L : Int) (m : List Int) : Prop := ∀ p m', Red m p m' → L ≤ wid p
def RSq (L : Int) (l : List Int) (ps : List (Int × Int)) (m : List Int) : Prop := RS l ps m ∧ ∀ p ∈ ps, wid p < L
theorem nfl_ex (L : Int) : ∀ (n : Nat) (l : List Int), l.length ≤ n → ∃ ps r, RSq L l ps r ∧ NfL L r
  | 0, l, h => ⟨[], l, ⟨.nil, fun p hp => by cases hp⟩, fun p l' r => by have := r.len; omega⟩
  | n + 1, l, h => by
    by_cases q : ∃ p m, Red l p m ∧ wid p < L
    · obtain ⟨p, m, r, hw⟩ := q
      have := r.len
      obtain ⟨ps, r', ⟨h1, h2⟩, h3⟩ := nfl_ex L n m (by omega)
      exact ⟨p :: ps, r', ⟨.cons r h1, fun p' hp' => by
        rcases List.mem_cons.mp hp' with e | hp'
        · rw [e]; exact hw
        · exact h2 p' hp'⟩, h3⟩
    · exact ⟨[], l, ⟨.nil, fun p hp => by cases hp⟩, fun p m r => by
        by_cases hw : wid p < L
        · exact absurd ⟨p, m, r, hw⟩ q
        · omega⟩
theorem rsq_tail {L : Int} {m r : List Int} {p : Int × Int} {ps : List (Int × Int)} (h : RS m ps r) (k : ∀ q ∈ p :: ps, wid q < L) : RSq L m ps r := ⟨h, fun q hq => k q (List.mem_cons_of_mem _ hq)⟩
theorem rsq_cons {L : Int} {l m r : List Int} {p : Int × Int} {ps : List (Int × Int)} (a : Red l p m) (hp : wid p < L) (h : RSq L m ps r) : RSq L l (p :: ps) r := ⟨.cons a h.1, fun q hq => by
  rcases List.mem_cons.mp hq with e | hq
  · rw [e]; exact hp
  · exact h.2 q hq⟩
theorem RSq.uniq {L : Int} : ∀ (n : Nat) {l r r' : List Int} {ps ps' : List (Int × Int)}, l.length ≤ n → isT l → RSq L l ps r → NfL L r → RSq L l ps' r' → NfL L r' → r = r' ∧ ps.Perm ps' := by
  intro n
  induction n with
  | zero =>
    intro l r r' ps ps' hn t h1 n1 h2 n2
    obtain ⟨h1, w1⟩ := h1
    obtain ⟨h2, w2⟩ := h2
    cases h1 with
    | nil =>
      cases h2 with
      | nil => exact ⟨rfl, .refl _⟩
      | @cons _ _ _ p _ a _ => have := n1 _ _ a; have := w2 p (by simp); omega
    | cons a _ => have := a.len; omega
  | succ n ih =>
    intro l r r' ps ps' hn t h1 n1 h2 n2
    obtain ⟨h1, w1⟩ := h1
    obtain ⟨h2, w2⟩ := h2
    cases h1 with
    | nil =>
      cases h2 with
      | nil => exact ⟨rfl, .refl _⟩
      | @cons _ _ _ p _ a _ => have := n1 _ _ a; have := w2 p (by simp); omega
    | @cons _ m _ p ps a k1 =>
      cases h2 with
      | nil => have := n2 _ _ a; have := w1 p (by simp); omega
      | @cons _ m' _ p' ps' b k2 =>
        have la := a.len
        have lb := b.len
        have wp := w1 p (by simp)
        have wp' := w2 p' (by simp)
        rcases dia t a b with ⟨rfl, rfl⟩ | ⟨x, ra, rb⟩
        · obtain ⟨e, f⟩ := ih (by omega) (a.isT t) (rsq_tail k1 w1) n1 (rsq_tail k2 w2) n2
          exact ⟨e, f.cons _⟩
        · obtain ⟨es, y, ry, ny⟩ := nfl_ex L x.length x (Nat.le_refl _)
          obtain ⟨e1, f1⟩ := ih (by omega) (a.isT t) (rsq_tail k1 w1) n1 (rsq_cons ra wp' ry) ny
          obtain ⟨e2, f2⟩ := ih (by omega) (b.isT t) (rsq_tail k2 w2) n2 (rsq_cons rb wp ry) ny
          refine ⟨e1.trans e2.symm, ((f1.cons p).trans (.swap _ _ _)).trans (f2.cons p').symm⟩
noncomputable def flt (L : Int) (l : List Int) : List Int := Classical.choose (show ∃ r, ∃ ps, RSq L l ps r ∧ NfL L r from let ⟨ps, r, h⟩ := nfl_ex L l.length l (Nat.le_refl _); ⟨r, ps, h⟩)
theorem flt_spec (L : Int) (l : List Int) : ∃ ps, RSq L l ps (flt L l) ∧ NfL L (flt L l) := Classical.choose_spec (show ∃ r, ∃ ps, RSq L l ps r ∧ NfL L r from let ⟨ps, r, h⟩ := nfl_ex L l.length l (Nat.le_refl _); ⟨r, ps, h⟩)
theorem flt_is {L : Int} {l r : List Int} {ps : List (Int × Int)} (t : isT l) (h : RSq L l ps r) (n : NfL L r) : r = flt L l := by
  obtain ⟨qs, h2, n2⟩ := flt_spec L l
  exact (RSq.uniq l.length (Nat.le_refl _) t h n h2 n2).1
theorem RSq.trans {L : Int} {l m r : List Int} {ps qs : List (Int × Int)} (h : RSq L l ps m) (k : RSq L m qs r) : RSq L l (ps ++ qs) r := ⟨h.1.trans k.1, fun p hp => by
  rcases List.mem_append.mp hp with hp | hp
  · exact h.2 p hp
  · exact k.2 p hp⟩
theorem flt_step {L : Int} {l m : List Int} {ps : List (Int × Int)} (t : isT l) (h : RSq L l ps m) : flt L m = flt L l := by
  obtain ⟨qs, h2, n2⟩ := flt_spec L m
  exact flt_is t (h.trans h2) n2
theorem flt_flt {L M : Int} (hLM : L ≤ M) {l : List Int} (t : isT l) : flt M (flt L l) = flt M l := by
  obtain ⟨qs, h2, n2⟩ := flt_spec L l
  exact flt_step t ⟨h2.1, fun p hp => by have := h2.2 p hp; omega⟩
theorem flt_isT {L : Int} {l : List Int} (t : isT l) : isT (flt L l) := by obtain ⟨qs, h2, n2⟩ := flt_spec L l; exact h2.1.isT t
theorem flt_self {L : Int} {l : List Int} (t : isT l) (n : NfL L l) : flt L l = l := (flt_is t ⟨.nil, fun p hp => by cases hp⟩ n).symm
theorem flt_nf (L : Int) (l : List Int) : NfL L (flt L l) := (flt_spec L l).choose_spec.2
theorem flt_idem {L : Int} {l : List Int} (t : isT l) : flt L (flt L l) = flt L l := flt_self (flt_isT t) (flt_nf L l)
/-- nothing smaller appears -/
theorem red_back {m m' m2 : List Int} {p p2 : Int × Int} (t : isT m) (h : Red m p m') (h2 : Red m' p2 m2) (hw : wid p2 < wid p) : ∃ m3, Red m p2 m3 := by
  induction h generalizing m2 with
  | @here a b c d q i =>
    rw [wid_mkc] at hw
    cases h2 with
    | @here _ _ e f q j =>
      rw [wid_mkc] at hw
      exact ⟨_, .there (.there (.here (by unfold inr at *; omega)))⟩
    | there h => exact ⟨_, .there (.there (.there h))⟩
  | @there x l l' p h ih =>
    generalize hz : x :: l' = z at h2
    cases h2 with
    | @here x' b c d q j =>
      injection hz with hx hl
      subst hx
      subst hl
      rw [wid_mkc] at hw
      cases h with
      | @here _ u v _ _ i =>
        rw [wid_mkc] at hw
        obtain ⟨_, e1, e2, _⟩ := t
        have := inr_ext e1 e2 i
        omega
      | there h =>
        cases h with
        | @here _ u v _ _ i =>
          rw [wid_mkc] at hw
          exact ⟨_, .here (by unfold inr at *; omega)⟩
        | there h =>
          obtain ⟨d', n, n', rfl, e⟩ := h.head
          cases e
          exact ⟨_, .here j⟩
    | @there y n n2 q k =>
      injection hz with hx hl
      subst hx
      subst hl
      obtain ⟨m3, r3⟩ := ih (isT_tail t) k hw
      exact ⟨_, .there r3⟩
theorem NfL.red {L : Int} {m m' : List Int} {p : Int × Int} (t : isT m) (n : NfL L m) (h : Red m p m') : NfL L m' := fun p2 m2 h2 => by
  by_cases hw : wid p2 < wid p
  · obtain ⟨m3, r3⟩ := red_back t h h2 hw
    exact n _ _ r3
  · have := n _ _ h; omega
theorem NfL.rs {L : Int} {m r : List Int} {ps : List (Int × Int)} (t : isT m) (n : NfL L m) (h : RS m ps r) : ∀ p ∈ ps, L ≤ wid p := by
  induction h with
  | nil => intro p hp; cases hp
  | cons a _ ih =>
    intro p hp
    rcases List.mem_cons.mp hp with e | hp
    · rw [e]; exact n _ _ a
    · exact ih (a.isT t) (n.red t a) p hp
def keepC (L : Int) (cs : List (Int × Int)) : List (Int × Int) := cs.filter fun p => decide (L ≤ wid p)
def smallC (L : Int) (cs : List (Int × Int)) : List (Int × Int) := cs.filter fun p => decide (wid p < L)
theorem srt_filter {cs : List (Int × Int)} (h : srtC cs = cs) (f : Int × Int → Bool) : (cs.filter f).Pairwise (fun a b => leC a b = true) := by
  have := srtC_srt cs
  rw [h] at this
  exact this.filter f
theorem cyc_flt {L : Int} {l : List Int} (t : isT l) : cyc (flt L l) = keepC L (cyc l) ∧ rst (flt L l) = rst l ∧ ∃ ps, RSq L l ps (flt L l) ∧ (smallC L (cyc l)).Perm ps := by
  obtain ⟨ps, h, n⟩ := flt_spec L l
  obtain ⟨e, f⟩ := cyc_step' t h.1
  have hk : ∀ p ∈ cyc (flt L l), L ≤ wid p := fun p hp => n.rs (flt_isT t) (nrm_rs _) p ((cyc_perm _).mem_iff.mp hp)
  refine ⟨?_, f, ps, h, ?_⟩
  · have h1 := e.filter (fun p => decide (L ≤ wid p))
    rw [List.filter_append, List.filter_eq_nil_iff.mpr (fun p hp => by have := h.2 p hp; simp; omega), List.nil_append, List.filter_eq_self.mpr (fun p hp => by simpa using hk p hp)] at h1
    have h2 := srtC_uniq (srt_filter (cyc_srt l) (fun p => decide (L ≤ wid p))) h1.symm
    unfold keepC
    rw [h2, cyc_srt]
  · have h1 := e.filter (fun p => decide (wid p < L))
    rw [List.filter_append, List.filter_eq_self.mpr (fun p hp => by simpa using h.2 p hp), List.filter_eq_nil_iff.mpr (fun p hp => by have := hk p hp; simp; omega), List.append_nil] at h1
    exact h1.symm
/-- the places of small pairs -/
def smallAt (L : Int) (l : List Int) (k : Int) : Bool := innerAt l k && decide (((gI l k - gI l (k + 1)).natAbs : Int) < L)
def splaces (L : Int) (l : List Int) : List Int := (rg 0 l.length).filter (smallAt L l)
theorem innerAt_in {l : List Int} {k : Int} (h : innerAt l k = true) : 1 ≤ k ∧ k ≤ (l.length : Int) - 3 := by
  unfold innerAt at h
  simp only [Bool.and_eq_true, decide_eq_true_eq] at h
  exact h.1
theorem mem_splaces {L : Int} {l : List Int} {k : Int} : k ∈ splaces L l ↔ smallAt L l k = true := by
  unfold splaces
  rw [List.mem_filter, mem_rg]
  constructor
  · intro h; exact h.2
  · intro h
    refine ⟨?_, h⟩
    unfold smallAt at h
    rw [Bool.and_eq_true] at h
    have := innerAt_in h.1
    omega
theorem smallAt_red {L : Int} {l : List Int} {k : Int} (h : smallAt L l k = true) : Red l (mkc (gI l k) (gI l (k + 1))) (cut l none (some k) ++ cut l (some (k + 2)) none) ∧ wid (mkc (gI l k) (gI l (k + 1))) < L := by
  unfold smallAt at h
  rw [Bool.and_eq_true, decide_eq_true_eq] at h
  exact ⟨innerAt_red h.1, by rw [wid_mkc]; exact h.2⟩
theorem splaces_nil {L : Int} {l : List Int} : splaces L l = [] ↔ NfL L l := by
  rw [List.eq_nil_iff_forall_not_mem]
  constructor
  · intro h p l' r
    obtain ⟨s, a, b, c, d, q, i, rfl, rfl, rfl⟩ := r.form
    have h1 : innerAt (s ++ a :: b :: c :: d :: q) (s.length + 1) = true := innerAt_iff.mpr ⟨s, a, b, c, d, q, rfl, rfl, i⟩
    have h2 := h (s.length + 1)
    rw [mem_splaces] at h2
    unfold smallAt at h2
    rw [h1, Bool.true_and, decide_eq_true_eq, gI_atk s _ 1 b rfl (by omega), gI_atk s _ 2 c rfl (by omega)] at h2
    rw [wid_mkc]; omega
  · intro h k hk
    obtain ⟨r, hw⟩ := smallAt_red (mem_splaces.mp hk)
    have := h _ _ r
    omega
theorem splaces_len (L : Int) (l : List Int) : (splaces L l).length ≤ l.length := by
  unfold splaces
  refine Nat.le_trans (List.length_filter_le _ _) ?_
  rw [rg_len]; omega
/-- cycle places -/
theorem cplaces (l : List Int) : (rg 0 l.length).filter (innerAt l) = pairs l := by
  unfold pairs
  by_cases h : l.length < 4
  · have e : ∀ k, innerAt l k = false := fun k => by
      cases q : innerAt l k with
      | false => rfl
      | true => have := innerAt_in q; omega
    rw [show ((l.length : Int) - 2 - 1).toNat = l.length - 3 from by omega, show l.length - 3 = 0 from by omega, rg_zero, List.filter_nil, List.filter_eq_nil_iff.mpr (fun k _ => by rw [e]; exact Bool.false_ne_true)]
  · obtain ⟨n, hn⟩ : ∃ n, l.length = n + 4 := ⟨l.length - 4, by omega⟩
    have e1 : rg 0 l.length = [0] ++ (rg 1 (n + 1) ++ [(n : Int) + 2, n + 3]) := by
      rw [hn, rg_succ]
      have : rg (0 + 1) (n + 3) = rg 1 (n + 1) ++ [(n : Int) + 2, n + 3] := by
        rw [show n + 3 = (n + 2) + 1 from rfl, rg_snoc, show n + 2 = (n + 1) + 1 from rfl, rg_snoc, List.append_assoc]
        simp
        omega
      rw [this]; rfl
    have out : ∀ k : Int, (k < 1 ∨ (n : Int) + 1 < k) → innerAt l k = false := fun k hk => by
      cases q : innerAt l k with
      | false => rfl
      | true => have := innerAt_in q; omega
    rw [e1, List.filter_append, List.filter_append, show ((l.length : Int) - 2 - 1).toNat = n + 1 from by omega]
    have f1 : [(0 : Int)].filter (innerAt l) = [] := List.filter_eq_nil_iff.mpr (fun k hk => by rw [List.mem_singleton] at hk; rw [out k (by omega)]; exact Bool.false_ne_true)
    have f2 : [(n : Int) + 2, n + 3].filter (innerAt l) = [] := List.filter_eq_nil_iff.mpr (fun k hk => by simp at hk; rw [out k (by omega)]; exact Bool.false_ne_true)
    rw [f1, f2, List.nil_append, List.append_nil]
    refine List.filter_congr fun k hk => ?_
    rw [mem_rg] at hk
    unfold innerAt
    rw [decide_eq_true (by omega), decide_eq_true (by omega)]; rfl
theorem nfl_nf {L : Int} {l : List Int} (h : NfL L l) (hb : ∀ x ∈ l, ∀ y ∈ l, x - y < L) : Nf l := fun p l' r => by
  have h3 : L ≤ p.2 - p.1 := h _ _ r
  have h2 := r.cmem
  have := hb p.2 h2.2 p.1 h2.1
  omega
theorem rsq_all {L : Int} {l r : List Int} {ps : List (Int × Int)} (hb : ∀ x ∈ l, ∀ y ∈ l, x - y < L) (h : RS l ps r) : RSq L l ps r := ⟨h, fun p hp => by
  have := h.cmem p hp
  exact hb p.2 this.2 p.1 this.1⟩
theorem flt_big {L : Int} {l : List Int} (t : isT l) (hb : ∀ x ∈ l, ∀ y ∈ l, x - y < L) : flt L l = rst l :=
  (flt_is t (rsq_all hb (nrm_rs l)) (fun p l' r => absurd r (rst_nf l p l'))).symm
theorem flt_zero {L : Int} (hL : L ≤ 0) {l : List Int} (t : isT l) : flt L l = l := flt_self t fun p l' r => by have := r.lt t; show L ≤ p.2 - p.1; omega
theorem flt_sub (L : Int) (l : List Int) : (flt L l).Sublist l := by obtain ⟨ps, h, _⟩ := flt_spec L l; exact h.1.sub
theorem flt_ne {L : Int} {l : List Int} (h : l ≠ []) : flt L l ≠ [] := by obtain ⟨ps, k, _⟩ := flt_spec L l; exact k.1.ne h
theorem rowOk_flt {L : Int} {a : List Int} (h : RowOk a) : RowOk (flt L (turned a)) := ⟨flt_ne (turned_ne h.1), Nat.le_trans (flt_sub _ _).length_le (Nat.le_trans (turned_len a) h.2.1), fun x hx => h.2.2 x (turned_mem ((flt_sub _ _).subset hx))⟩
theorem flt_lens {L : Int} {l : List Int} (t : isT l) : l.length = (flt L l).length + 2 * (smallC L (cyc l)).length ∧ tv l = tv (flt L l) + 2 * csum (smallC L (cyc l)) := by
  obtain ⟨_, _, ps, h, pm⟩ := cyc_flt (L := L) t
  have h1 := h.1.len
  have h2 := h.1.tv t
  rw [pm.length_eq]
  refine ⟨h1, ?_⟩
  rw [h2]
  unfold csum
  rw [sum_perm (pm.map _)]
end Rf

/-! ranges by place; sorted lists by place -/
namespace Rf
open Dl L2
theorem ranges_len (l : List Int) : (ranges l).length = l.length - 1 := by
  rw [← ranges_ix, List.length_map, rg_len]; omega
theorem gI_rg {lo k : Int} {n : Nat} (h1 : 0 ≤ k) (h2 : k < n) : gI (rg lo n) k = lo + k := by
  unfold gI
  rw [if_pos h1, List.getD_eq_getElem?_getD, rg_get (by omega)]
  show lo + ((k.toNat : Nat) : Int) = lo + k
  omega
theorem gI_ranges {l : List Int} {k : Int} (h1 : 0 ≤ k) (h2 : k + 1 < l.length) : gI (ranges l) k = ((gI l (k + 1) - gI l k).natAbs : Int) := by
  rw [← ranges_ix, gI_map (f := fun k => ((gI l (k + 1) - gI l k).natAbs : Int)) (l := rg 0 ((l.length : Int) - 1).toNat) (by omega) (by rw [rg_len]; omega), gI_rg (by omega) (by omega), Int.zero_add]
theorem inner_pairs (l : List Int) : ((rg 1 (((ranges l).length : Int) - 1 - 1).toNat).filter fun k => decide (gI (ranges l) k ≤ min (gI (ranges l) (k - 1)) (gI (ranges l) (k + 1)))) = pairs l := by
  unfold pairs
  have hl := ranges_len l
  by_cases h : l.length < 4
  · rw [show (((ranges l).length : Int) - 1 - 1).toNat = 0 from by omega, show ((l.length : Int) - 2 - 1).toNat = 0 from by omega]; rfl
  · rw [show (((ranges l).length : Int) - 1 - 1).toNat = ((l.length : Int) - 2 - 1).toNat from by omega]
    refine List.filter_congr fun k hk => ?_
    rw [mem_rg] at hk
    rw [gI_ranges (by omega) (by omega), gI_ranges (by omega) (by omega), gI_ranges (by omega) (by omega), show k - 1 + 1 = k from by omega, show k + 1 + 1 = k + 2 from by omega]
    unfold pin
    rw [decide_eq_decide]
    unfold inr
    omega
theorem pairs_small {L : Int} {l : List Int} (h : NfL L l) : ((pairs l).filter fun k => decide (gI (ranges l) k < L)) = [] := by
  refine List.filter_eq_nil_iff.mpr fun k hk => ?_
  have hi := pairs_in hk
  have r := innerAt_red (mem_pairs.mp hk)
  have := h _ _ r
  rw [wid_mkc] at this
  rw [gI_ranges (by omega) (by omega)]
  simp
  omega
theorem filter_map_len {α β : Type} (f : α → β) (p : β → Bool) (l : List α) : (l.filter fun x => p (f x)).length = ((l.map f).filter p).length := by
  rw [List.filter_map, List.length_map]; rfl
/-- the m-th from the top -/
theorem gI_neg {S : List Int} {m : Int} (h1 : 1 ≤ m) (h2 : m ≤ S.length) : ∃ A x B, S = A ++ x :: B ∧ gI S (-m) = x ∧ (B.length : Int) = m - 1 := by
  have hlt : S.length - m.toNat < S.length := by omega
  refine ⟨S.take (S.length - m.toNat), S[S.length - m.toNat], S.drop (S.length - m.toNat + 1), ?_, ?_, ?_⟩
  · rw [← List.drop_eq_getElem_cons hlt, List.take_append_drop]
  · unfold gI
    rw [if_neg (by omega), show (-m + (S.length : Int)).toNat = S.length - m.toNat from by omega, List.getD_eq_getElem?_getD, List.getElem?_eq_getElem hlt]; rfl
  · rw [List.length_drop]; omega
theorem top_ge {S : List Int} (hs : S.Pairwise (fun a b => leI a b = true)) {m : Int} (h1 : 1 ≤ m) (h2 : m ≤ S.length) : m ≤ (S.filter (fun x => decide (gI S (-m) ≤ x))).length ∧ ((S.filter (fun x => decide (gI S (-m) < x))).length : Int) < m := by
  obtain ⟨A, x, B, e, g, hB⟩ := gI_neg h1 h2
  rw [g]
  subst e
  rw [List.pairwise_append] at hs
  obtain ⟨_, hxB, hA⟩ := hs
  rw [List.pairwise_cons] at hxB
  constructor
  · have e1 : B.filter (fun y => decide (x ≤ y)) = B := List.filter_eq_self.mpr (fun b hb => by have := leI_iff.mp (hxB.1 b hb); simpa using this)
    rw [List.filter_append, List.length_append, List.filter_cons, if_pos (by simp), e1, List.length_cons]
    omega
  · rw [List.filter_append, List.filter_eq_nil_iff.mpr (fun a ha => by have := leI_iff.mp (hA a ha x (by simp)); simp; omega), List.nil_append, List.filter_cons, if_neg (by simp)]
    have := List.length_filter_le (fun y => decide (x < y)) B
    omega
theorem top_mono {S : List Int} (hs : S.Pairwise (fun a b => leI a b = true)) {m : Int} (h1 : 1 ≤ m) (h2 : m + 1 ≤ S.length) : gI S (-(m + 1)) ≤ gI S (-m) := by
  obtain ⟨A, x, B, e, g, hB⟩ := gI_neg (S := S) (m := m + 1) (by omega) (by omega)
  obtain ⟨A', y, B', e', g', hB'⟩ := gI_neg (S := S) (m := m) (by omega) (by omega)
  rw [g, g']
  subst e
  rw [List.pairwise_append] at hs
  obtain ⟨_, hxB, hA⟩ := hs
  rw [List.pairwise_cons] at hxB
  have hl := congrArg List.length e'
  simp only [List.length_append, List.length_cons] at hl
  have e2 : A' = A ++ [x] := by
    have : A'.length = (A ++ [x]).length := by simp; omega
    have h3 : A ++ x :: B = (A ++ [x]) ++ B := by simp
    rw [h3] at e'
    exact (List.append_inj_left e' this.symm).symm
  subst e2
  rw [List.append_assoc] at e'
  have e3 := List.append_cancel_left e'
  injection e3 with _ e4
  rw [e4] at hxB
  exact leI_iff.mp (hxB.1 y (by simp))
theorem rev_gI {S : List Int} {m : Int} (h1 : 1 ≤ m) (h2 : m ≤ S.length) : gI S.reverse (m - 1) = gI S (-m) := by
  obtain ⟨A, x, B, e, g, hB⟩ := gI_neg h1 h2
  rw [g, e, List.reverse_append, List.reverse_cons, List.append_assoc]
  exact gI_atk B.reverse _ 0 x rfl (by rw [List.length_reverse]; omega)
/-- the small ones among the pairs -/
def smp (L : Int) (l : List Int) : List Int := (pairs l).filter fun k => decide (((gI l k - gI l (k + 1)).natAbs : Int) < L)
theorem mem_smp {L : Int} {l : List Int} {k : Int} : k ∈ smp L l ↔ smallAt L l k = true := by
  unfold smp smallAt
  rw [List.mem_filter, mem_pairs, Bool.and_eq_true]
theorem smp_nil {L : Int} {l : List Int} : smp L l = [] ↔ NfL L l := by
  rw [← splaces_nil, List.eq_nil_iff_forall_not_mem, List.eq_nil_iff_forall_not_mem]
  constructor
  · intro h k; rw [mem_splaces, ← mem_smp]; exact h k
  · intro h k; rw [mem_smp, ← mem_splaces]; exact h k
theorem smp_len (L : Int) (l : List Int) : (smp L l).length ≤ l.length := Nat.le_trans (List.length_filter_le _ _) (pairs_len l)
theorem smallC_not (L : Int) (cs : List (Int × Int)) : (cs.filter fun p => !decide (p ∈ keepC L cs)) = smallC L cs := by
  unfold smallC
  refine List.filter_congr fun p hp => ?_
  rw [Bool.eq_iff_iff]
  unfold keepC
  simp [hp]
theorem wids (ns : List Int) : (srtI ((cyc ns).map wid)).Perm ((cyc ns).map wid) := srtI_perm _
theorem wid_in {l : List Int} (t : isT l) (h : ∀ x ∈ l, -99 ≤ x ∧ x ≤ 99) {w : Int} (hw : w ∈ (cyc l).map wid) : 1 ≤ w ∧ w ≤ 198 := by
  obtain ⟨p, hp, rfl⟩ := List.mem_map.mp hw
  have h1 := cyc_mem hp
  have h2 := cyc_lt t hp
  have h3 := h p.1 h1.1
  have h4 := h p.2 h1.2
  show 1 ≤ p.2 - p.1 ∧ p.2 - p.1 ≤ 198
  omega
theorem filter_len_perm {l m : List Int} (h : l.Perm m) (p : Int → Bool) : (l.filter p).length = (m.filter p).length := (h.filter p).length_eq
end Rf

/-! rows moved, scaled, turned over; powers; rows without end -/
namespace Rf
open Dl L2
structure Sim (f : Int → Int) (g : Int × Int → Int × Int) : Prop where
  inj : ∀ a b, f a = f b ↔ a = b
  ex : ∀ a b c, ext (f a) (f b) (f c) ↔ ext a b c
  inn : ∀ a b c d, inr (f a) (f b) (f c) (f d) ↔ inr a b c d
  lab : ∀ b c, mkc (f b) (f c) = g (mkc b c)
section
variable {f : Int → Int} {g : Int × Int → Int × Int}
theorem Sim.psh (S : Sim f g) (s : List Int) (v : Int) : psh (s.map f) (f v) = (Rf.psh s v).map f := by
  match s with
  | [] => rfl
  | [b] =>
    show Rf.psh [f b] (f v) = _
    rw [psh_one, psh_one]
    by_cases h : b = v
    · rw [if_pos h, if_pos (by rw [h])]; rfl
    · rw [if_neg h, if_neg (by rw [S.inj]; exact h)]; rfl
  | b :: p :: r =>
    show Rf.psh (f b :: f p :: r.map f) (f v) = _
    rw [psh_two, psh_two]
    by_cases h : b = v
    · rw [if_pos h, if_pos (by rw [h])]; rfl
    · rw [if_neg h, if_neg (by rw [S.inj]; exact h)]
      by_cases h2 : ext p b v
      · rw [if_pos h2, if_pos ((S.ex _ _ _).mpr h2)]; rfl
      · rw [if_neg h2, if_neg (fun z => h2 ((S.ex _ _ _).mp z))]; rfl
theorem Sim.fold (S : Sim f g) : ∀ (l s : List Int), (l.map f).foldl Rf.psh (s.map f) = (l.foldl Rf.psh s).map f
  | [], _ => rfl
  | v :: l, s => by
    show (l.map f).foldl Rf.psh (Rf.psh (s.map f) (f v)) = _
    rw [S.psh, S.fold l]; rfl
theorem Sim.turned (S : Sim f g) (l : List Int) : turned (l.map f) = (Rf.turned l).map f := by
  apply List.reverse_inj.mp
  rw [turned_fold, ← List.map_reverse, turned_fold]
  exact S.fold l []
theorem Sim.red (S : Sim f g) {l l' : List Int} {p : Int × Int} (h : Red l p l') : Red (l.map f) (g p) (l'.map f) := by
  induction h with
  | here i => rw [← S.lab]; exact .here ((S.inn _ _ _ _).mpr i)
  | there _ ih => exact .there ih
theorem Sim.rs (S : Sim f g) {l r : List Int} {ps : List (Int × Int)} (h : RS l ps r) : RS (l.map f) (ps.map g) (r.map f) := by
  induction h with
  | nil => exact .nil
  | cons a _ ih => exact .cons (S.red a) ih
theorem Sim.nf (S : Sim f g) {l : List Int} (h : Nf l) : Nf (l.map f) := fun p m r => by
  obtain ⟨s, a, b, c, d, q, i, e, _, _⟩ := r.form
  obtain ⟨s', q', rfl, rfl, e2⟩ := List.map_eq_append_iff.mp e
  match q', e2 with
  | a' :: b' :: c' :: d' :: q', e2 =>
    simp only [List.map_cons, List.cons.injEq] at e2
    obtain ⟨rfl, rfl, rfl, rfl, rfl⟩ := e2
    exact h _ _ (Red.at s' q' ((S.inn _ _ _ _).mp i))
theorem Sim.isT (S : Sim f g) : ∀ {l : List Int}, isT l → Rf.isT (l.map f)
  | [], _ => trivial
  | [a], _ => trivial
  | [a, b], h => fun z => h ((S.inj _ _).mp z)
  | a :: b :: c :: r, h => ⟨(S.ex _ _ _).mpr h.1, S.isT (l := b :: c :: r) h.2⟩
theorem Sim.cyc (S : Sim f g) {l : List Int} (t : Rf.isT l) : cyc (l.map f) = srtC ((Rf.cyc l).map g) ∧ rst (l.map f) = (rst l).map f := by
  obtain ⟨e1, e2⟩ := cyc_is (S.isT t) (S.rs (nrm_rs l)) (S.nf (rst_nf l))
  exact ⟨by rw [← e1]; exact srtC_congr ((cyc_perm l).symm.map g), e2.symm⟩
theorem Sim.row (S : Sim f g) (l : List Int) : cy_ (l.map f) = srtC ((cy_ l).map g) ∧ re_ (l.map f) = (re_ l).map f := by
  unfold cy_ re_
  rw [S.turned]
  exact S.cyc (turned_isT l)
end
theorem sim_add (k : Int) : Sim (fun x => x + k) (fun p => (p.1 + k, p.2 + k)) where
  inj a b := by omega
  ex a b c := by unfold ext; omega
  inn a b c d := by unfold inr; omega
  lab b c := by unfold mkc; ext <;> simp <;> omega
theorem sim_neg : Sim (fun x => 0 - x) (fun p => (0 - p.2, 0 - p.1)) where
  inj a b := by omega
  ex a b c := by unfold ext; omega
  inn a b c d := by unfold inr; omega
  lab b c := by unfold mkc; ext <;> simp <;> omega
theorem sim_mul {k : Int} (h : k = 1 ∨ k = 2) : Sim (fun x => x * k) (fun p => (p.1 * k, p.2 * k)) := by
  rcases h with rfl | rfl
  · exact ⟨fun a b => by omega, fun a b c => by unfold ext; omega, fun a b c d => by unfold inr; omega, fun b c => by unfold mkc; ext <;> simp⟩
  · exact ⟨fun a b => by omega, fun a b c => by unfold ext; omega, fun a b c d => by unfold inr; omega, fun b c => by unfold mkc; ext <;> simp <;> omega⟩
theorem map_srt {cs : List (Int × Int)} {g : Int × Int → Int × Int} (h : srtC cs = cs) (hg : ∀ p q, leC p q = true → leC (g p) (g q) = true) : srtC (cs.map g) = cs.map g := by
  apply srtC_self
  have := srtC_srt cs
  rw [h] at this
  rw [List.pairwise_map]
  exact this.imp fun {a b} z => hg a b z
theorem row_add (k : Int) (l : List Int) : cy_ (l.map fun x => x + k) = (cy_ l).map fun p => (p.1 + k, p.2 + k) := by
  rw [((sim_add k).row l).1]
  exact map_srt (cyc_srt _) fun p q h => by rw [leC_iff] at *; simp; omega
theorem cy_rev (l : List Int) : cy_ l.reverse = cy_ l ∧ re_ l.reverse = (re_ l).reverse := by
  unfold cy_ re_
  rw [turned_rev]
  obtain ⟨e1, e2⟩ := cyc_is (rev_isT (turned_isT l)) (nrm_rs (turned l)).rev (rst_nf _).rev
  exact ⟨e1.symm, e2.symm⟩
/-! powers -/
theorem pow_mono {a b : Int} (h0 : 0 ≤ a) (h : a ≤ b) : ∀ n : Nat, a ^ n ≤ b ^ n
  | 0 => by simp
  | n + 1 => by
    rw [Int.pow_succ, Int.pow_succ]
    exact Int.mul_le_mul (pow_mono h0 h n) h h0 (Int.pow_nonneg (by omega))
theorem conv (n : Nat) : ∀ {x y z : Int}, 0 ≤ y → y ≤ x → y ≤ z → x ^ n + z ^ n ≤ y ^ n + (x + z - y) ^ n := by
  induction n with
  | zero => intro x y z _ _ _; simp
  | succ n ih =>
    intro x y z h0 h1 h2
    have ih := ih h0 h1 h2
    have hx : y ^ n ≤ x ^ n := pow_mono h0 h1 n
    have hz : y ^ n ≤ z ^ n := pow_mono h0 h2 n
    have hy : 0 ≤ y ^ n := Int.pow_nonneg h0
    simp only [Int.pow_succ]
    have e1 : y ^ n * y + (x + z - y) ^ n * (x + z - y) - (x ^ n * x + z ^ n * z) = (y ^ n + (x + z - y) ^ n - x ^ n - z ^ n) * (x + z - y) + (x ^ n - y ^ n) * (z - y) + (z ^ n - y ^ n) * (x - y) := by
      generalize y ^ n = Y; generalize x ^ n = X; generalize z ^ n = Z; generalize (x + z - y) ^ n = W
      simp only [Int.mul_sub, Int.sub_mul, Int.mul_add, Int.add_mul]
      omega
    have p1 : 0 ≤ (y ^ n + (x + z - y) ^ n - x ^ n - z ^ n) * (x + z - y) := Int.mul_nonneg (by omega) (by omega)
    have p2 : 0 ≤ (x ^ n - y ^ n) * (z - y) := Int.mul_nonneg (by omega) (by omega)
    have p3 : 0 ≤ (z ^ n - y ^ n) * (x - y) := Int.mul_nonneg (by omega) (by omega)
    omega
def psum (n : Nat) (l : List Int) : Int := (l.map fun x => x ^ n).sum
def wsum (n : Nat) (cs : List (Int × Int)) : Int := (cs.map fun p => wid p ^ n).sum
theorem psum_ranges (n : Nat) (a b : Int) (r : List Int) : psum n (ranges (a :: b :: r)) = ((b - a).natAbs : Int) ^ n + psum n (ranges (b :: r)) := by
  unfold psum ranges
  simp [w2]
theorem Red.pow (n : Nat) {l r : List Int} {p : Int × Int} (t : Rf.isT l) (h : Red l p r) : psum n (ranges l) ≤ psum n (ranges r) + 2 * wid p ^ n := by
  induction h with
  | @here a b c d q i =>
    obtain ⟨e1, e2, t2⟩ := t
    have hh := inr_ext e1 e2 i
    rw [psum_ranges, psum_ranges, psum_ranges, psum_ranges, wid_mkc]
    have := conv n (x := ((b - a).natAbs : Int)) (y := ((b - c).natAbs : Int)) (z := ((d - c).natAbs : Int)) (by omega) (by omega) (by omega)
    rw [show ((b - a).natAbs : Int) + ((d - c).natAbs : Int) - ((b - c).natAbs : Int) = ((d - a).natAbs : Int) from by omega] at this
    rw [show ((c - b).natAbs : Int) = ((b - c).natAbs : Int) from by omega]
    generalize ((b - a).natAbs : Int) ^ n = A at *
    generalize ((b - c).natAbs : Int) ^ n = B at *
    generalize ((d - c).natAbs : Int) ^ n = C at *
    generalize ((d - a).natAbs : Int) ^ n = D at *
    omega
  | there h ih =>
    have := ih (isT_tail t)
    obtain ⟨x, m, m', rfl, rfl⟩ := h.head
    rw [psum_ranges, psum_ranges]
    omega
theorem RS.pow (n : Nat) {l r : List Int} {ps : List (Int × Int)} (t : Rf.isT l) (h : RS l ps r) : psum n (ranges l) ≤ psum n (ranges r) + 2 * wsum n ps := by
  induction h with
  | nil => simp [wsum]
  | cons a _ ih =>
    have := ih (a.isT t)
    have h2 := a.pow n t
    unfold wsum at *
    simp only [List.map_cons, List.sum_cons]
    omega
theorem wsum_perm {n : Nat} {l m : List (Int × Int)} (h : l.Perm m) : wsum n l = wsum n m := sum_perm (h.map _)
theorem wsum_app (n : Nat) (l m : List (Int × Int)) : wsum n (l ++ m) = wsum n l + wsum n m := by unfold wsum; rw [List.map_append, List.sum_append]
theorem wsum_nn {n : Nat} : ∀ {cs : List (Int × Int)}, (∀ p ∈ cs, p.1 < p.2) → 0 ≤ wsum n cs
  | [], _ => by simp [wsum]
  | p :: cs, h => by
    have h1 := wsum_nn (n := n) (cs := cs) fun q hq => h q (List.mem_cons_of_mem _ hq)
    have h2 := h p (by simp)
    have h3 : 0 ≤ wid p ^ n := Int.pow_nonneg (by show 0 ≤ p.2 - p.1; omega)
    unfold wsum at *
    simp only [List.map_cons, List.sum_cons]
    omega
theorem row_pow (n : Nat) (l : List Int) : psum n (ranges (turned l)) ≤ psum n (ranges (re_ l)) + 2 * wsum n (cy_ l) := by
  rw [wsum_perm (cyc_perm _)]
  exact (nrm_rs _).pow n (turned_isT l)
theorem wsum_mul (n : Nat) (k : Int) : ∀ cs : List (Int × Int), wsum n (cs.map fun p => (p.1 * k, p.2 * k)) = wsum n cs * k ^ n
  | [] => by simp [wsum]
  | p :: cs => by
    have ih := wsum_mul n k cs
    unfold wsum at *
    simp only [List.map_cons, List.sum_cons, Int.add_mul, ← ih]
    congr 1
    show (p.2 * k - p.1 * k) ^ n = (p.2 - p.1) ^ n * k ^ n
    rw [← Int.sub_mul, Int.mul_pow]
/-! rows without end -/
noncomputable def rep (l : List Int) : List (Int × Int) := srtC (cy_ l ++ cy_ (re_ l ++ re_ l))
theorem rep_perm (l : List Int) : (rep l).Perm (cy_ l ++ cy_ (re_ l ++ re_ l)) := srtC_perm _
theorem rep_srt (l : List Int) : srtC (rep l) = rep l := srtC_idem _
theorem cy_lt {l : List Int} {p : Int × Int} (h : p ∈ cy_ l) : p.1 < p.2 := cyc_lt (turned_isT l) h
theorem rep_lt {l : List Int} {p : Int × Int} (h : p ∈ rep l) : p.1 < p.2 := by
  rcases List.mem_append.mp ((rep_perm l).mem_iff.mp h) with h | h
  · exact cy_lt h
  · exact cy_lt h
theorem rep_len (l : List Int) : (rep l).length ≤ 3 * l.length := by
  have h1 := cy_len l
  have h2 := cy_len (re_ l ++ re_ l)
  have h3 := re_len l
  rw [(rep_perm l).length_eq, List.length_append]
  rw [List.length_append] at h2
  unfold cy_ at *
  omega
theorem cy_bd {l : List Int} {lo hi : Int} (h : ∀ x ∈ l, lo ≤ x ∧ x ≤ hi) {p : Int × Int} (hp : p ∈ cy_ l) : lo ≤ p.1 ∧ p.1 ≤ hi ∧ lo ≤ p.2 ∧ p.2 ≤ hi := by
  have h1 := cyc_mem hp
  have h2 := h _ (turned_mem h1.1)
  have h3 := h _ (turned_mem h1.2)
  omega
theorem re_bd {l : List Int} {lo hi : Int} (h : ∀ x ∈ l, lo ≤ x ∧ x ≤ hi) : ∀ x ∈ re_ l, lo ≤ x ∧ x ≤ hi := fun x hx => h x (re_mem hx)
theorem rep_bd {l : List Int} {lo hi : Int} (h : ∀ x ∈ l, lo ≤ x ∧ x ≤ hi) {p : Int × Int} (hp : p ∈ rep l) : lo ≤ p.1 ∧ p.1 ≤ hi ∧ lo ≤ p.2 ∧ p.2 ≤ hi := by
  rcases List.mem_append.mp ((rep_perm l).mem_iff.mp hp) with hp | hp
  · exact cy_bd h hp
  · exact cy_bd (fun x hx => by rcases List.mem_append.mp hx with hx | hx <;> exact re_bd h x hx) hp
theorem ranges_bd : ∀ {l : List Int} {B : Int}, (∀ x ∈ l, -B ≤ x ∧ x ≤ B) → ∀ w ∈ ranges l, 0 ≤ w ∧ w ≤ 2 * B
  | [], _, _ => fun w hw => by cases hw
  | [a], _, _ => fun w hw => by cases hw
  | a :: b :: r, B, h => fun w hw => by
    have e : ranges (a :: b :: r) = ((b - a).natAbs : Int) :: ranges (b :: r) := by unfold ranges; simp [w2]
    rw [e] at hw
    rcases List.mem_cons.mp hw with rfl | hw
    · have h1 := h a (by simp)
      have h2 := h b (by simp)
      omega
    · exact ranges_bd (fun x hx => h x (List.mem_cons_of_mem _ hx)) w hw
theorem psum_one (l : List Int) : psum 1 (ranges l) = tv l := by
  unfold psum tv
  congr 1
  rw [show (fun x : Int => x ^ 1) = id from funext fun x => by rw [Int.pow_succ, Int.pow_zero, Int.one_mul]; rfl, List.map_id]
theorem wsum_one (cs : List (Int × Int)) : wsum 1 cs = csum cs := by
  unfold wsum csum
  congr 1
  refine List.map_congr_left fun p _ => ?_
  rw [Int.pow_succ, Int.pow_zero, Int.one_mul]
theorem damage_le (n : Nat) (l : List Int) : wsum n (cy_ l) ≤ wsum n (rep l) := by
  rw [wsum_perm (rep_perm l), wsum_app]
  have := wsum_nn (n := n) (cs := cy_ (re_ l ++ re_ l)) fun p hp => cy_lt hp
  omega
theorem row_mul {k : Int} (h : k = 1 ∨ k = 2) (n : Nat) (l : List Int) : wsum n (cy_ (l.map fun x => x * k)) = wsum n (cy_ l) * k ^ n := by
  rw [((sim_mul h).row l).1, wsum_perm (srtC_perm _), wsum_mul]
end Rf

/-! a row again and again -/
namespace Rf
open Dl L2
theorem turned_dd (p : List Int) (x : Int) (q : List Int) : turned (p ++ x :: x :: q) = turned (p ++ x :: q) := by
  apply List.reverse_inj.mp
  rw [turned_fold, turned_fold, List.foldl_append, List.foldl_append]
  show q.foldl psh (psh (psh _ x) x) = q.foldl psh (psh _ x)
  obtain ⟨t, e⟩ := psh_ne (p.foldl psh []) x
  rw [e, psh_same]
/-- what shrinks goes on shrinking -/
theorem shrink : ∀ {q : List Int} {a b c : Int}, isT (a :: b :: c :: q) → Nf (a :: b :: c :: q) → (b - c).natAbs ≤ (a - b).natAbs → ∀ x ∈ q, (b < x ∧ x < c) ∨ (c < x ∧ x < b)
  | [], _, _, _, _, _, _ => fun x hx => by cases hx
  | d :: q, a, b, c, t, n, h => fun x hx => by
    have hlt : (c - d).natAbs < (b - c).natAbs := by
      by_cases z : (b - c).natAbs ≤ (c - d).natAbs
      · exact absurd (Red.here ⟨h, z⟩) (n _ _)
      · omega
    obtain ⟨e1, e2, t2⟩ := t
    unfold ext at e1 e2
    rcases List.mem_cons.mp hx with rfl | hx
    · omega
    · have n2 : Nf (b :: c :: d :: q) := fun p l' r => n _ _ (.there r)
      have := shrink (q := q) (a := b) (b := c) (c := d) ⟨e2, t2⟩ n2 (by omega) x hx
      omega
theorem nf_tail {a : Int} {l : List Int} (n : Nf (a :: l)) : Nf l := fun p l' r => n _ _ (.there r)
/-- from the greatest value a rest goes to the least one -/
theorem rest_top {M y : Int} {r : List Int} (t : isT (M :: y :: r)) (n : Nf (M :: y :: r)) (h : ∀ x ∈ M :: y :: r, x ≤ M) : ∀ x ∈ M :: y :: r, y ≤ x := by
  have hy := isT_ne t
  have hyM := h y (by simp)
  intro x hx
  simp only [List.mem_cons] at hx
  rcases hx with rfl | rfl | hx
  · omega
  · omega
  · match r, t, n, h, hx with
    | z :: q, t, n, h, hx =>
      have e1 := t.1
      have hz := h z (by simp)
      unfold ext at e1
      rcases List.mem_cons.mp hx with rfl | hx
      · omega
      · have := shrink t n (by omega) x hx
        omega
theorem rest_closed {M : Int} {r : List Int} (t : isT r) (n : Nf r) (h : ∀ x ∈ r, x ≤ M) (h1 : r.head? = some M) (h2 : r.getLast? = some M) {m : Int} (hm : m ∈ r) (hmM : m < M) (hmin : ∀ x ∈ r, m ≤ x) : r = [M, m, M] := by
  match r, t, n, h, h1, h2, hm, hmin with
  | [a], t, n, h, h1, h2, hm, hmin => cases h1; simp at hm; omega
  | [a, b], t, n, h, h1, h2, hm, hmin =>
    cases h1
    have h2 : b = M := by simpa using h2
    exact absurd h2.symm t
  | a :: y :: z :: q, t, n, h, h1, h2, hm, hmin =>
    cases h1
    have hy : y = m := by
      have h3 := rest_top t n h m hm
      have h4 := hmin y (by simp)
      omega
    have e1 := t.1
    have hz := h z (by simp)
    unfold ext at e1
    have hs := shrink t n (by omega)
    cases q with
    | nil =>
      have h2 : z = M := by simpa using h2
      rw [hy, h2]
    | cons d q =>
      have : M ∈ d :: q := by
        rw [List.getLast?_cons_cons, List.getLast?_cons_cons, List.getLast?_cons_cons] at h2
        exact List.mem_of_getLast? h2
      have := hs M this
      omega
theorem const_isT {x : Int} : ∀ {l : List Int}, isT l → l ≠ [] → (∀ y ∈ l, y = x) → l = [x]
  | [a], _, _, h => by rw [h a (by simp)]
  | a :: b :: r, t, _, h => by
    have := isT_ne t
    have h1 := h a (by simp)
    have h2 := h b (by simp)
    omega
theorem re_const {x : Int} {l : List Int} (hl : l ≠ []) (h : ∀ y ∈ l, y = x) : re_ l = [x] :=
  const_isT (re_isT l) (re_ne hl) fun y hy => h y (re_mem hy)
theorem re_low (l : List Int) : ∀ x ∈ l, (∃ y ∈ re_ l, y ≤ x) ∧ (∃ y ∈ re_ l, x ≤ y) := fun x hx => by
  obtain ⟨⟨y, hy, e⟩, ⟨z, hz, f⟩⟩ := turned_low l x hx
  obtain ⟨⟨y', hy', e'⟩, _⟩ := (nrm_rs (turned l)).low (turned_isT l) y hy
  obtain ⟨_, ⟨z', hz', f'⟩⟩ := (nrm_rs (turned l)).low (turned_isT l) z hz
  exact ⟨⟨y', hy', by omega⟩, ⟨z', hz', by omega⟩⟩
theorem re_min {l : List Int} {m : Int} (hm : m ∈ l) (h : ∀ x ∈ l, m ≤ x) : m ∈ re_ l := by
  obtain ⟨⟨y, hy, e⟩, _⟩ := re_low l m hm
  have := h y (re_mem hy)
  have : y = m := by omega
  exact this ▸ hy
theorem re_closed {M m : Int} {l : List Int} (h : ∀ x ∈ l, m ≤ x ∧ x ≤ M) (h1 : l.head? = some M) (h2 : l.getLast? = some M) (hm : m ∈ l) (hmM : m < M) : re_ l = [M, m, M] :=
  rest_closed (re_isT l) (re_nf l) (fun x hx => (h x (re_mem hx)).2) (re_head.trans h1) (re_last.trans h2) (re_min hm fun x hx => (h x hx).1) hmM (fun x hx => (h x (re_mem hx)).1)
/-- three rows joined -/
theorem join3 (a b c : List Int) : re_ (a ++ b ++ c) = re_ (re_ a ++ re_ b ++ re_ c) := by
  rw [← (joinL (a ++ b) c).2, ← (joinR (re_ (a ++ b)) c).2, ← (join2 a b).2, (joinL (re_ a ++ re_ b) (re_ c)).2]
/-- the greatest and the least value once more -/
theorem again {u v : List Int} {m M : Int} (hmM : m < M) (t : isT (u ++ [m, M])) : RS (turned (u ++ m :: M :: m :: M :: v)) [mkc m M] (turned (u ++ m :: M :: v)) := by
  have e1 : (u ++ [m, M]).foldl psh [] = M :: m :: u.reverse := by
    rw [← turned_fold, turned_self t]; simp
  have p1 : psh (M :: m :: u.reverse) m = m :: M :: m :: u.reverse := by rw [psh_two, if_neg (by omega), if_pos (by unfold ext; omega)]
  have p2 : psh (m :: M :: m :: u.reverse) M = M :: m :: M :: m :: u.reverse := by rw [psh_two, if_neg (by omega), if_pos (by unfold ext; omega)]
  have r : Red (M :: m :: M :: m :: u.reverse) (mkc m M) (M :: m :: u.reverse) := .here (by unfold inr; omega)
  have t4 : isT (M :: m :: M :: m :: u.reverse) := by
    have tr := rev_isT t
    rw [List.reverse_append] at tr
    exact ⟨by unfold ext; omega, by unfold ext; omega, tr⟩
  have h := (rs_fold v t4 (.one r)).rev
  have f1 : v.foldl psh (M :: m :: M :: m :: u.reverse) = (turned (u ++ m :: M :: m :: M :: v)).reverse := by
    rw [turned_fold, show u ++ m :: M :: m :: M :: v = (u ++ [m, M]) ++ m :: M :: v from by simp, List.foldl_append, e1]
    show _ = v.foldl psh (psh (psh _ m) M)
    rw [p1, p2]
  have f2 : v.foldl psh (M :: m :: u.reverse) = (turned (u ++ m :: M :: v)).reverse := by
    rw [turned_fold, show u ++ m :: M :: v = (u ++ [m, M]) ++ v from by simp, List.foldl_append, e1]
  rw [f1, f2, List.reverse_reverse, List.reverse_reverse] at h
  exact h
theorem idem_case {a b : List Int} {m M : Int} (h : ∀ x ∈ a ++ M :: b, m ≤ x ∧ x ≤ M) (hm : m ∈ a) (hmM : m < M) : re_ ((a ++ M :: b) ++ (a ++ M :: b)) = re_ (a ++ M :: b) := by
  have ha : ∀ x ∈ a, m ≤ x ∧ x ≤ M := fun x hx => h x (by simp [hx])
  have hb : ∀ x ∈ b, m ≤ x ∧ x ≤ M := fun x hx => h x (by simp [hx])
  -- the rest of a M
  have hA : ∀ x ∈ a ++ [M], m ≤ x ∧ x ≤ M := fun x hx => by
    rcases List.mem_append.mp hx with hx | hx
    · exact ha x hx
    · rw [List.mem_singleton] at hx; omega
  have hlA : (re_ (a ++ [M])).getLast? = some M := re_last.trans (by simp)
  have hmA : m ∈ re_ (a ++ [M]) := re_min (by simp [hm]) fun x hx => (hA x hx).1
  obtain ⟨u, eu⟩ : ∃ u, re_ (a ++ [M]) = u ++ [m, M] := by
    have t := rev_isT (re_isT (a ++ [M]))
    have n := (re_nf (a ++ [M])).rev
    have hh : (re_ (a ++ [M])).reverse.head? = some M := by rw [List.head?_reverse]; exact hlA
    have hx : ∀ x ∈ (re_ (a ++ [M])).reverse, m ≤ x ∧ x ≤ M := fun x hx => hA x (re_mem (List.mem_reverse.mp hx))
    have hm' : m ∈ (re_ (a ++ [M])).reverse := List.mem_reverse.mpr hmA
    generalize hr : (re_ (a ++ [M])).reverse = r at *
    match r, t, n, hh, hx, hm' with
    | [x], t, n, hh, hx, hm' => cases hh; simp at hm'; omega
    | x :: y :: r, t, n, hh, hx, hm' =>
      cases hh
      have h3 := rest_top t n (fun x hz => (hx x hz).2) m hm'
      have h4 := hx y (by simp)
      have : y = m := by omega
      subst this
      refine ⟨r.reverse, ?_⟩
      have := congrArg List.reverse hr
      rw [List.reverse_reverse] at this
      rw [this]; simp
  have tA : isT (u ++ [m, M]) := eu ▸ re_isT (a ++ [M])
  -- the middle
  have hC : re_ (M :: b ++ a ++ [M]) = [M, m, M] := by
    refine re_closed (fun x hx => ?_) rfl (by rw [List.getLast?_append]; rfl) (by simp [hm]) hmM
    simp only [List.cons_append, List.mem_cons, List.mem_append, List.not_mem_nil, or_false] at hx
    rcases hx with rfl | (hx | hx) | rfl
    · omega
    · exact hb x hx
    · exact ha x hx
    · omega
  -- the end
  obtain ⟨v, ev⟩ : ∃ v, re_ (M :: b) = M :: v := by
    have := re_head (a := M :: b)
    cases q : re_ (M :: b) with
    | nil => rw [q] at this; cases this
    | cons y t => rw [q] at this; cases this; exact ⟨t, rfl⟩
  have e1 : turned ((a ++ M :: b) ++ (a ++ M :: b)) = turned ((a ++ [M]) ++ (M :: b ++ a ++ [M]) ++ (M :: b)) := by
    have s1 : (a ++ [M]) ++ (M :: b ++ a ++ [M]) ++ (M :: b) = a ++ M :: M :: (b ++ a ++ [M] ++ M :: b) := by simp
    have s2 : a ++ M :: (b ++ a ++ [M] ++ M :: b) = (a ++ M :: b ++ a) ++ M :: M :: b := by simp
    rw [s1, turned_dd, s2, turned_dd]
    simp
  have e2 : turned (a ++ M :: b) = turned ((a ++ [M]) ++ (M :: b)) := by
    have s1 : (a ++ [M]) ++ (M :: b) = a ++ M :: M :: b := by simp
    rw [s1, turned_dd]
  have f1 : re_ ((a ++ M :: b) ++ (a ++ M :: b)) = re_ ((a ++ [M]) ++ (M :: b ++ a ++ [M]) ++ (M :: b)) := by unfold re_; rw [e1]
  have f2 : re_ (a ++ M :: b) = re_ ((a ++ [M]) ++ (M :: b)) := by unfold re_; rw [e2]
  rw [f1, f2, join3, hC, ← (join2 (a ++ [M]) (M :: b)).2, eu, ev]
  have g1 : turned (u ++ [m, M] ++ [M, m, M] ++ M :: v) = turned (u ++ m :: M :: m :: M :: v) := by
    have s1 : u ++ [m, M] ++ [M, m, M] ++ M :: v = (u ++ [m]) ++ M :: M :: (m :: M :: M :: v) := by simp
    have s2 : (u ++ [m]) ++ M :: (m :: M :: M :: v) = (u ++ [m, M, m]) ++ M :: M :: v := by simp
    rw [s1, turned_dd, s2, turned_dd]; simp
  have g2 : turned (u ++ [m, M] ++ M :: v) = turned (u ++ m :: M :: v) := by
    have s1 : u ++ [m, M] ++ M :: v = (u ++ [m]) ++ M :: M :: v := by simp
    rw [s1, turned_dd]; simp
  show rst (turned (u ++ [m, M] ++ [M, m, M] ++ M :: v)) = rst (turned (u ++ [m, M] ++ M :: v))
  rw [g1, g2]
  exact (cyc_step (turned_isT _) (again hmM tA)).2.symm
theorem re_twice (l : List Int) : re_ (l ++ l) = re_ l := by
  by_cases hl : l = []
  · subst hl; rfl
  have hM := lmax_mem hl
  have hm := lmin_mem hl
  have hb : ∀ x ∈ l, lmin l ≤ x ∧ x ≤ lmax l := fun x hx => ⟨lmin_le hx, le_lmax hx⟩
  have hle := lmin_le hM
  by_cases he : lmin l = lmax l
  · have hc : ∀ y ∈ l, y = lmax l := fun y hy => by have := hb y hy; omega
    rw [re_const hl hc, re_const (l := l ++ l) (by simp [hl]) (fun y hy => by rcases List.mem_append.mp hy with hy | hy <;> exact hc y hy)]
  · obtain ⟨a, b, e⟩ := List.append_of_mem hM
    generalize lmax l = M at *
    generalize lmin l = m at *
    have hlt : m < M := by omega
    rw [e] at hm
    rcases List.mem_append.mp hm with hm | hm
    · rw [e]; rw [e] at hb; exact idem_case hb hm hlt
    · rcases List.mem_cons.mp hm with hm | hm
      · omega
      · have er : l.reverse = b.reverse ++ M :: a.reverse := by rw [e]; simp
        have hbr : ∀ x ∈ b.reverse ++ M :: a.reverse, m ≤ x ∧ x ≤ M := fun x hx => hb x (by rw [← er] at hx; exact List.mem_reverse.mp hx)
        have h1 := idem_case hbr (List.mem_reverse.mpr hm) hlt
        rw [← er, ← List.reverse_append, (cy_rev (l ++ l)).2, (cy_rev l).2] at h1
        exact List.reverse_inj.mp h1
def many (l : List Int) : Nat → List Int
  | 0 => []
  | n + 1 => many l n ++ l
theorem many_re (l : List Int) : ∀ n : Nat, re_ (many l (n + 1)) = re_ l
  | 0 => rfl
  | n + 1 => by
    show re_ (many l (n + 1) ++ l) = re_ l
    rw [← (joinL (many l (n + 1)) l).2, many_re l n, (joinL l l).2, re_twice]
theorem many_cy (l : List Int) (n : Nat) : (cy_ (many l (n + 1)) ++ rep l).Perm (cy_ (many l (n + 2))) := by
  obtain ⟨e, _⟩ := join2 (many l (n + 1)) l
  rw [many_re] at e
  refine List.Perm.trans ?_ e
  rw [List.append_assoc]
  exact (rep_perm l).append_left _
/-- a period may begin anywhere -/
theorem rep_rot (a b : List Int) : rep (a ++ b) = rep (b ++ a) := by
  have h1 := many_cy (a ++ b) 0
  have h2 := many_cy (a ++ b) 1
  have h3 := many_cy (b ++ a) 0
  -- a (b a)^n b
  have key : ∃ K : List (Int × Int), ∀ x, re_ x = re_ (b ++ a) → (cy_ x ++ K).Perm (cy_ (a ++ x ++ b)) := by
    refine ⟨cy_ a ++ cy_ b ++ cy_ (re_ a ++ re_ (b ++ a)) ++ cy_ (re_ (re_ a ++ re_ (b ++ a)) ++ re_ b), fun x hx => ?_⟩
    have j1 := (join2 a x).1
    have j2 := (join2 (a ++ x) b).1
    have j3 := (join2 a x).2
    rw [hx] at j1 j3
    rw [← j3] at j2
    refine List.Perm.trans ?_ j2
    refine List.Perm.trans ?_ (((j1.append_right _).append_right _))
    simp only [List.append_assoc]
    generalize cy_ x = X; generalize cy_ a = A; generalize cy_ b = B
    generalize cy_ (re_ a ++ re_ (b ++ a)) = C; generalize cy_ (re_ (re_ a ++ re_ (b ++ a)) ++ re_ b) = D
    -- X A B C D -> A X C B D
    refine List.Perm.trans (List.perm_append_comm_assoc X A _) ?_
    refine List.Perm.append_left A (List.Perm.append_left X ?_)
    exact List.perm_append_comm_assoc B C D
  obtain ⟨K, hK⟩ := key
  have m1 : many (b ++ a) 1 = b ++ a := by show [] ++ (b ++ a) = _; simp
  have k1 := hK (b ++ a) rfl
  have k2 := hK (many (b ++ a) 2) (many_re (b ++ a) 1)
  have w1 : a ++ (b ++ a) ++ b = many (a ++ b) 2 := by show _ = ([] ++ (a ++ b)) ++ (a ++ b); simp
  have w2 : a ++ many (b ++ a) 2 ++ b = many (a ++ b) 3 := by show a ++ (([] ++ (b ++ a)) ++ (b ++ a)) ++ b = (([] ++ (a ++ b)) ++ (a ++ b)) ++ (a ++ b); simp
  rw [w1] at k1
  rw [w2] at k2
  -- cy(ab^2) + rep(ab) = cy(ab^3) = cy(ba^2) + K = cy(ba) + rep(ba) + K = cy(ab^2) + rep(ba)
  have h4 : (cy_ (many (a ++ b) 2) ++ rep (a ++ b)).Perm (cy_ (many (a ++ b) 2) ++ rep (b ++ a)) := by
    refine h2.trans (k2.symm.trans ?_)
    rw [m1] at h3
    refine List.Perm.trans (h3.symm.append_right K) ?_
    rw [List.append_assoc]
    refine List.Perm.trans (List.Perm.append_left _ List.perm_append_comm) ?_
    rw [← List.append_assoc]
    exact k1.append_right _
  have h5 := (List.perm_append_left_iff _).mp h4
  rw [← rep_srt (a ++ b), ← rep_srt (b ++ a)]
  exact srtC_congr h5
/-! levels -/
def crs (L : Int) (l : List Int) : List Int := w2 (fun a b => !decide (decide (L < a) = decide (L < b))) (fun _ _ => 0) l
def crn (L : Int) (l : List Int) : Nat := (crs L l).length
def cr1 (L a b : Int) : Nat := if decide (L < a) = decide (L < b) then 0 else 1
theorem cr1_comm (L a b : Int) : cr1 L a b = cr1 L b a := by
  unfold cr1
  by_cases h1 : L < a <;> by_cases h2 : L < b <;> simp [h1, h2]
theorem crn_cons (L a b : Int) (r : List Int) : crn L (a :: b :: r) = cr1 L a b + crn L (b :: r) := by
  unfold crn crs cr1
  simp only [w2]
  split <;> split <;> simp_all <;> omega
def lev (L : Int) (cs : List (Int × Int)) : Nat := (cs.filter fun p => decide (p.1 ≤ L) && decide (L < p.2)).length
theorem Red.crn (L : Int) {l r : List Int} {p : Int × Int} (t : Rf.isT l) (h : Red l p r) : crn L l = Rf.crn L r + 2 * lev L [p] := by
  induction h with
  | @here a b c d q i =>
    obtain ⟨e1, e2, t2⟩ := t
    have hh := inr_ext e1 e2 i
    rw [crn_cons, crn_cons, crn_cons, crn_cons]
    have : cr1 L a b + (cr1 L b c + cr1 L c d) = cr1 L a d + 2 * lev L [mkc b c] := by
      unfold cr1 lev mkc
      simp only [List.filter_cons, List.filter_nil]
      rcases hh with hh | hh
      · rw [Int.min_eq_right (by omega), Int.max_eq_left (by omega)]
        by_cases h1 : L < a <;> by_cases h2 : L < b <;> by_cases h3 : L < c <;> by_cases h4 : L < d <;> by_cases h5 : c ≤ L <;> first | omega | simp [h1, h2, h3, h4, h5]
      · rw [Int.min_eq_left (by omega), Int.max_eq_right (by omega)]
        by_cases h1 : L < a <;> by_cases h2 : L < b <;> by_cases h3 : L < c <;> by_cases h4 : L < d <;> by_cases h5 : b ≤ L <;> first | omega | simp [h1, h2, h3, h4, h5]
    omega
  | there h ih =>
    have := ih (isT_tail t)
    obtain ⟨x, m, m', rfl, rfl⟩ := h.head
    rw [crn_cons, crn_cons]
    omega
theorem lev_cons (L : Int) (p : Int × Int) (ps : List (Int × Int)) : lev L (p :: ps) = lev L [p] + lev L ps := by
  unfold lev
  rw [show p :: ps = [p] ++ ps from rfl, List.filter_append, List.length_append]
theorem lev_app (L : Int) (ps qs : List (Int × Int)) : lev L (ps ++ qs) = lev L ps + lev L qs := by
  unfold lev
  rw [List.filter_append, List.length_append]
theorem lev_perm {L : Int} {ps qs : List (Int × Int)} (h : ps.Perm qs) : lev L ps = lev L qs := (h.filter _).length_eq
theorem RS.crn (L : Int) {l r : List Int} {ps : List (Int × Int)} (t : Rf.isT l) (h : RS l ps r) : crn L l = Rf.crn L r + 2 * lev L ps := by
  induction h with
  | nil => simp [lev]
  | cons a _ ih =>
    have := ih (a.isT t)
    have h2 := a.crn L t
    rw [lev_cons]
    omega
theorem crn_snoc (L : Int) : ∀ (l : List Int) (a b : Int), crn L (l ++ [a, b]) = crn L (l ++ [a]) + cr1 L a b
  | [], a, b => by rw [List.nil_append, List.nil_append, crn_cons]; unfold crn crs; simp [w2]
  | [x], a, b => by
    show crn L (x :: a :: [b]) = crn L (x :: a :: []) + _
    rw [crn_cons, crn_cons, crn_cons]
    unfold crn crs; simp [w2]
  | x :: y :: l, a, b => by
    have ih := crn_snoc L (y :: l) a b
    show crn L (x :: y :: (l ++ [a, b])) = crn L (x :: y :: (l ++ [a])) + _
    rw [crn_cons, crn_cons]
    simp only [List.cons_append] at ih
    omega
theorem crn_rev (L : Int) : ∀ l : List Int, crn L l.reverse = crn L l
  | [] => rfl
  | [a] => rfl
  | a :: b :: r => by
    have ih := crn_rev L (b :: r)
    rw [List.reverse_cons] at ih
    rw [List.reverse_cons, List.reverse_cons, List.append_assoc]
    show crn L (r.reverse ++ [b, a]) = _
    rw [crn_snoc, ih, crn_cons, cr1_comm]
    omega
theorem crn_psh (L : Int) {b : Int} {r : List Int} (v : Int) : crn L (psh (b :: r) v) = crn L (b :: r) + cr1 L b v := by
  cases r with
  | nil =>
    rw [psh_one]
    split
    · rename_i e; subst e; unfold cr1; simp
    · rw [crn_cons, cr1_comm]; omega
  | cons p r =>
    rw [psh_two]
    split
    · rename_i e; subst e; unfold cr1; simp
    · rename_i hbv
      split
      · rw [crn_cons, cr1_comm]; omega
      · rename_i hx
        rw [crn_cons, crn_cons]
        have : cr1 L v p = cr1 L b p + cr1 L b v := by
          unfold ext at hx
          unfold cr1
          by_cases h1 : L < v <;> by_cases h2 : L < b <;> by_cases h3 : L < p <;> first | omega | simp [h1, h2, h3]
        omega
theorem crn_fold (L : Int) : ∀ (l : List Int) (b : Int) (r : List Int), crn L (l.foldl psh (b :: r)) = crn L (b :: r) + crn L (b :: l)
  | [], b, r => by
    show crn L (b :: r) = crn L (b :: r) + crn L [b]
    have : crn L [b] = 0 := rfl
    omega
  | v :: l, b, r => by
    obtain ⟨t, e⟩ := psh_ne (b :: r) v
    have h := crn_psh L (b := b) (r := r) v
    show crn L (l.foldl psh (psh (b :: r) v)) = _
    rw [e] at h ⊢
    rw [crn_fold L l v t, h, crn_cons]
    omega
theorem crn_turned (L : Int) (l : List Int) : crn L (turned l) = crn L l := by
  cases l with
  | nil => rfl
  | cons b l =>
    rw [← crn_rev, turned_fold]
    show crn L (l.foldl psh [b]) = _
    rw [crn_fold]
    have : crn L [b] = 0 := rfl
    omega
theorem crn_row (L : Int) (l : List Int) : crn L l = 2 * lev L (cy_ l) + crn L (re_ l) := by
  rw [← crn_turned, (nrm_rs (turned l)).crn L (turned_isT l)]
  have : lev L (cy_ l) = lev L (nrm (turned l)).1 := lev_perm (cyc_perm _)
  show _ = _ + crn L (rst (turned l))
  omega
theorem crn_app (L : Int) : ∀ (l : List Int) (a b : Int) (r : List Int), crn L (l ++ a :: b :: r) = crn L (l ++ [a]) + cr1 L a b + crn L (b :: r)
  | [], a, b, r => by
    have : crn L [a] = 0 := rfl
    simp only [List.nil_append]
    rw [crn_cons]; omega
  | [x], a, b, r => by
    have : crn L [a] = 0 := rfl
    show crn L (x :: a :: b :: r) = crn L (x :: a :: []) + _ + _
    rw [crn_cons, crn_cons, crn_cons]; omega
  | x :: y :: l, a, b, r => by
    have ih := crn_app L (y :: l) a b r
    show crn L (x :: y :: (l ++ a :: b :: r)) = crn L (x :: y :: (l ++ [a])) + _ + _
    rw [crn_cons, crn_cons]
    simp only [List.cons_append] at ih
    omega
theorem crn_loop (L : Int) (x : Int) (l : List Int) : crn L (x :: l ++ [x]) = 2 * lev L (rep (x :: l)) := by
  have h1 := crn_row L (x :: l ++ x :: l)
  have h2 := crn_row L (x :: l)
  rw [re_twice] at h1
  have h3 : lev L (cy_ (x :: l ++ x :: l)) = lev L (cy_ (x :: l)) + lev L (rep (x :: l)) := by
    rw [← lev_app]
    have := many_cy (x :: l) 0
    exact (lev_perm this).symm
  have h4 : crn L (x :: l ++ x :: l) = crn L (x :: l ++ [x]) + crn L (x :: l) := by
    rcases List.eq_nil_or_concat (x :: l) with z | ⟨m, y, z⟩
    · cases z
    · rw [z, List.concat_eq_append]
      have e : m ++ [y] ++ x :: l = m ++ y :: x :: l := by simp
      rw [← List.concat_eq_append, ← z]
      rw [show (x :: l) ++ x :: l = m ++ y :: x :: l from by rw [z, List.concat_eq_append]; simp, show (x :: l) ++ [x] = m ++ [y, x] from by rw [z, List.concat_eq_append]; simp, crn_app, crn_snoc]
  omega
end Rf

/-! rows many times; from the greatest value on -/
namespace Rf
open Dl L2
theorem many_flat (l : List Int) : ∀ n : Nat, (List.replicate n l).flatten = many l n
  | 0 => rfl
  | n + 1 => by
    rw [List.replicate_succ', List.flatten_append, many_flat l n]
    show many l n ++ (l ++ []) = _
    rw [List.append_nil]; rfl
theorem many_len (l : List Int) : ∀ n : Nat, (many l n).length = n * l.length
  | 0 => by simp [many]
  | n + 1 => by show (many l n ++ l).length = _; rw [List.length_append, many_len l n, Nat.succ_mul]
theorem many_ne {l : List Int} (h : l ≠ []) (n : Nat) : many l (n + 1) ≠ [] := by show many l n ++ l ≠ []; simp [h]
theorem many_cyl (l : List Int) : ∀ n : Nat, (cy_ (many l (n + 1))).length = (cy_ l).length + n * (rep l).length
  | 0 => by
    have : many l 1 = l := by show [] ++ l = l; simp
    rw [this]; omega
  | n + 1 => by
    have h := (many_cy l n).length_eq
    rw [List.length_append, many_cyl l n] at h
    rw [← h, Nat.succ_mul]; omega
theorem rep_lens (l : List Int) : (rep l).length = (cy_ l).length + (cy_ (re_ l ++ re_ l)).length := by
  rw [(rep_perm l).length_eq, List.length_append]
theorem rep_of {a b : List Int} (h : turned a = turned b) : rep a = rep b := by
  unfold rep cy_ re_; rw [h]
theorem rep_const {x : Int} {l : List Int} (hl : l ≠ []) (h : ∀ y ∈ l, y = x) : rep l = [] := by
  have c0 : ∀ {l : List Int}, l ≠ [] → (∀ y ∈ l, y = x) → cy_ l = [] := fun {l} hl h => by
    have e : turned l = [x] := const_isT (turned_isT l) (turned_ne hl) fun y hy => h y (turned_mem hy)
    unfold cy_
    rw [e]
    exact (cyc_nf (l := [x]) trivial (nf_short (by simp))).1
  unfold rep
  rw [c0 hl h, c0 (l := re_ l ++ re_ l) (by simp [re_ne hl]) (fun y hy => by rcases List.mem_append.mp hy with hy | hy <;> exact h y (re_mem hy))]
  rfl
theorem cy_mMm {m M : Int} (h : m < M) : cy_ ([M, m, M] ++ [M, m, M]) = [(m, M)] := by
  have e : turned ([M, m, M] ++ [M, m, M]) = [M, m, M, m, M] := by
    show turned ([M, m] ++ M :: M :: [m, M]) = _
    rw [turned_dd]
    exact turned_self ⟨by unfold ext; omega, by unfold ext; omega, by unfold ext; omega, show m ≠ M by omega⟩
  have t : isT [M, m, M, m, M] := e ▸ turned_isT _
  have r : Red [M, m, M, m, M] (mkc m M) [M, m, M] := .here (by unfold inr; omega)
  have := (cyc_is t (.one r) (nf_short (by simp))).1
  unfold cy_
  rw [e, ← this]
  show [(min m M, max m M)] = _
  rw [Int.min_eq_left (by omega), Int.max_eq_right (by omega)]
/-- from the greatest value on, and round -/
def fromTop (l : List Int) : List Int := l.drop (l.idxOf (lmax l)) ++ l.take (l.idxOf (lmax l) + 1)
theorem fromTop_eq {l : List Int} (h : l ≠ []) : ∃ a b, l = a ++ lmax l :: b ∧ fromTop l = (lmax l :: b ++ a) ++ [lmax l] ∧ l.idxOf (lmax l) < l.length := by
  have hlt := List.idxOf_lt_length_of_mem (lmax_mem h)
  have hg : l[l.idxOf (lmax l)] = lmax l := List.getElem_idxOf hlt
  have hd : l.drop (l.idxOf (lmax l)) = lmax l :: l.drop (l.idxOf (lmax l) + 1) := by rw [List.drop_eq_getElem_cons hlt, hg]
  refine ⟨l.take (l.idxOf (lmax l)), l.drop (l.idxOf (lmax l) + 1), ?_, ?_, hlt⟩
  · rw [← hd, List.take_append_drop]
  · unfold fromTop
    rw [hd, List.take_succ, List.getElem?_eq_getElem hlt, hg]
    simp
theorem fromTop_facts {l : List Int} (h : l ≠ []) : (fromTop l).length = l.length + 1 ∧ (∀ x, x ∈ fromTop l ↔ x ∈ l) ∧ (fromTop l).head? = some (lmax l) ∧ (fromTop l).getLast? = some (lmax l) ∧ rep (fromTop l) = rep l := by
  obtain ⟨a, b, e, f, _⟩ := fromTop_eq h
  generalize lmax l = M at *
  rw [f]
  refine ⟨by rw [e]; simp; omega, fun x => ?_, rfl, by rw [List.getLast?_append]; rfl, ?_⟩
  · rw [e]; simp only [List.mem_append, List.mem_cons, List.not_mem_nil, or_false]
    constructor
    · intro z
      rcases z with (z | z) | z
      · rcases z with z | z
        · exact .inr (.inl z)
        · exact .inr (.inr z)
      · exact .inl z
      · exact .inr (.inl z)
    · intro z
      rcases z with z | z | z
      · exact .inl (.inr z)
      · exact .inr z
      · exact .inl (.inl (.inr z))
  · rw [rep_rot (M :: b ++ a) [M], e, rep_rot a (M :: b)]
    apply rep_of
    exact turned_dd [] M (b ++ a)
theorem lmm {l m : List Int} (h : l ≠ []) (hm : m ≠ []) (e : ∀ x, x ∈ m ↔ x ∈ l) : lmax m = lmax l ∧ lmin m = lmin l :=
  ⟨lmax_uniq ((e _).mp (lmax_mem hm)) fun y hy => le_lmax ((e y).mpr hy), lmin_uniq ((e _).mp (lmin_mem hm)) fun y hy => lmin_le ((e y).mpr hy)⟩
theorem top_const {l : List Int} (h : l ≠ []) (he : lmax l = lmin l) : rep l = [] ∧ re_ (fromTop l) = [lmax l] := by
  obtain ⟨h1, h2, _⟩ := fromTop_facts h
  have hc : ∀ y ∈ l, y = lmax l := fun y hy => by have := lmin_le hy; have := le_lmax hy; omega
  have hn : fromTop l ≠ [] := by intro z; rw [z] at h1; simp at h1
  exact ⟨rep_const h hc, re_const hn fun y hy => hc y ((h2 y).mp hy)⟩
theorem top_rest {l : List Int} (h : l ≠ []) (he : lmax l ≠ lmin l) : re_ (fromTop l) = [lmax l, lmin l, lmax l] ∧ srtC (cy_ (fromTop l) ++ [(lmin l, lmax l)]) = rep l := by
  obtain ⟨h1, h2, h3, h4, h5⟩ := fromTop_facts h
  have hlt : lmin l < lmax l := by have := lmin_le (lmax_mem h); omega
  have e := re_closed (M := lmax l) (m := lmin l) (l := fromTop l) (fun x hx => ⟨lmin_le ((h2 x).mp hx), le_lmax ((h2 x).mp hx)⟩) h3 h4 ((h2 _).mpr (lmin_mem h)) hlt
  refine ⟨e, ?_⟩
  rw [← h5]
  unfold rep
  rw [e, cy_mMm hlt]
end Rf

namespace Dl
open PySem L2 Rf
section
variable {E : XK} {ρ : Rho} {te ta tb : TE} {P P1 P2 : PyData → Prop} {d : PyData} {ds : List PyData} {K : PySem.W.Frag} {r : R2} {i j : Nat} {t u : TS} {R : Out → Prop} {t2 : TA} {PA : List PyData → Prop}
/-- a, b = e, f with draws in them -/
theorem so_parX (h : EXA t2 ρ PA) (hp : ∀ ds, PA ds → ∃ a b, ds = [a, b] ∧ R (.nxt ((ρ.set i (.dat a)).set j (.dat b)))) : SO E (tPar i j t2) ρ R := fun Pv G0 H0 G H σ D s k =>
  h Pv G0 H0 G H σ s _ fun vs ds G' H' p e s' hv => by
    obtain ⟨a, b, rfl, hR⟩ := hp ds p
    cases hv with
    | cons h2 h3 =>
      cases h3 with
      | cons h3 h4 =>
        cases h4
        exact ⟨_, _, rfl, k.nx _ _ G' H' hR e ((s'.set h2).set h3)⟩
theorem sq_parX (h : EXA t2 ρ PA) (hp : ∀ ds, PA ds → ∃ a b, ds = [a, b] ∧ SO E u ((ρ.set i (.dat a)).set j (.dat b)) R) : SO E (tSeq (tPar i j t2) u) ρ R := so_seq (so_parX h hp)
theorem ex_lst (h : EXA t2 ρ PA) (hl : ∀ ds, PA ds → ds.length ≤ 16777216) : EX (tLst t2) ρ (fun d => ∃ ds, d = .list ds ∧ PA ds) := fun Pv G0 H0 G H σ s Q q =>
  h Pv G0 H0 G H σ s _ fun vs ds G' H' p e s' hv => ⟨size_of (by rw [hv.len]; exact hl ds p), fun l hn => by
    have x := Gr.new (o := .lst vs) s'.fm.e hn
    exact q _ _ _ _ ⟨ds, rfl, p⟩ (e.trans x.g) (s'.grow x) (.lst upd_same (hv.up x.g))⟩
theorem ex_callP {rel : List PyData → Rs → Prop} (h : EXA t2 ρ PA) (hr : ∀ ds, PA ds → ∃ d, P d ∧ rel ds (.ok d)) : EX (tCall (PrS rel) [] E t2) ρ P := fun Pv G0 H0 G H σ s Q q =>
  h Pv G0 H0 G H σ s _ fun vs ds G1 H1 p e s1 hv => by
    obtain ⟨d, pd, hd⟩ := hr ds p
    exact ⟨G1, ds, .ok d, s1.fm.e, by rw [List.append_nil]; exact hv, hd, fun v G' H' x hu => q v d G' H' pd (e.trans x.g) (s1.grow x) hu⟩
theorem rd_t0 {a b : PyData} : RD (rIx K) (.tuple [a, b]) (.int 0) a := rd_ixT rfl
theorem rd_t1 {a b : PyData} : RD (rIx K) (.tuple [a, b]) (.int 1) b := rd_ixT rfl
theorem ex_is (h : EX te ρ P1) (k : ∀ d, P1 d → P d) : EX te ρ P := h.imp k
end
/-! ### count -/
section
variable {X : Cx}
open PySem.Spec PyProof.Rows
def rCountD (K : PySem.W.Frag) : V → List V → Hp → VK → Prop := fun x xs H Q => ∃ (a : Addr) (y : V) (d : PyData) (ds : List PyData), x = V.ref a ∧ xs = [y] ∧ Dp K H (V.ref a) (.list ds) ∧ Dp K H y d ∧
  SeqAt.shaped (.list ds) = true ∧ SeqAt.shaped d = true ∧ Q (.int (ds.countP fun z => PyData.eqv z d : Nat)) H
theorem mt_countD (hu : X.A.units + 65 < cLine) : MtR X "list.count" (rCountD X.K) := by
  intro pins s σ H x xs v us Q I rx rxs h
  obtain ⟨a, y, d, ds, rfl, rfl, hl, hy, sl, sd, q⟩ := h
  cases rx
  cases rxs with
  | cons ry rt =>
    rename_i uy ut
    cases rt
    obtain ⟨bs, r1⟩ := Dp.reads I d y uy hy ry
    have hxs : PyData.canLayAll0 ds = true := SeqAt.canLay_of_shaped sl
    have hroom : X.A.units + 1 + min (PyData.depthAll ds) d.depth < cLine := room_in_shaped sd hu
    cases hl with
    | lst hs ha =>
      obtain ⟨its, rv, ⟨⟨cls, dd, data, sls⟩, n, ho, hc, hdn, hdt⟩, hlen⟩ := I.list hs
      simp only at hc hdt
      subst hc hdt
      obtain ⟨as, h4⟩ := Dp.readsAll I ds _ its ha rv
      have hmap : its.map (SeqAt.readOf s.heap) = ds := SeqAt.readsAll_map ds its as hxs h4
      refine call_meets PySem.F.slot_list_count ⟨_, ho, rfl⟩ PySem.F.entry_list_count (PySem.F.args_list_count_2 _ _)
        (SeqAt.list_countAt a its.toArray n dd sls uy (fun u => PyData.eqv (SeqAt.readOf s.heap u) d)) ⟨ho, SeqAt.items_eqAt (vs := its.toArray) (show ReadsAll s.heap its.toArray.toList ds as from h4) r1 hxs (SeqAt.canLay_of_shaped sd) hroom, ?_⟩
      refine ⟨.int (ds.countP fun z => PyData.eqv z d : Nat), H, I.tok _, ⟨s.toks, ?_⟩, q⟩
      show Value.int ((its.toArray.toList.countP _ : Nat) : Int) s.toks = Value.int ((ds.countP fun z => PyData.eqv z d : Nat) : Int) s.toks
      rw [← hmap, List.countP_map]
      rfl
theorem mt_countK {K : PySem.W.Frag} (h : X.K = K) (hu : X.A.units + 65 < cLine) : MtR X "list.count" (rCountD K) := h ▸ mt_countD hu
end
section
variable {ρ : Rho} {ta tb : TE} {K : PySem.W.Frag}
theorem ed_count {α : Type} [BEq α] {f : α → PyData} {xs : List α} {y : α} {n : Nat} (hf : ∀ x y, PyData.eqv (f x) (f y) = (x == y)) (hp : ∀ x, Pl n (f x)) (ha : ED ta ρ (.list (xs.map f))) (hb : ED tb ρ (f y))
    (hn : n + 1 ≤ 64 := by decide) : ED (tBM K "list" (rCountD K) ta (tCons tb tNil)) ρ (.int (xs.count y : Nat)) := fun G H σ w Q q =>
  ha G H σ w _ fun v G1 H1 x1 hd => by
    cases hd with
    | @lst a vs _ k1 k2 =>
      refine ⟨.inl ⟨rfl, _, SqL.of (x1.e _ _ k1)⟩, hb G1 H1 σ (w.grow x1) _ fun u G2 H2 x2 hu => ?_⟩
      refine ⟨a, u, f y, xs.map f, rfl, rfl, Dv.dp (.lst (x2.e _ _ (x2.g _ _ k1)) (k2.up (x2.g.trans x2.e))), (hu.up x2.e).dp, (pl_map hp xs).shaped hn, (hp y).shaped (by omega), ?_⟩
      have e : ((xs.map f).countP fun z => PyData.eqv z (f y)) = xs.count y := by
        rw [List.countP_map, List.count]
        refine List.countP_congr fun x _ => ?_
        rw [Function.comp_apply, hf]
      rw [e]
      exact q _ G2 H2 (x1.trans x2) (.int _)
theorem ed_countC {xs : List (Int × Int)} {y : Int × Int} (ha : ED ta ρ (.list (xs.map cy))) (hb : ED tb ρ (cy y)) : ED (tBM K "list" (rCountD K) ta (tCons tb tNil)) ρ (.int (xs.count y : Nat)) := ed_count (f := cy) (n := 1) (fun x y => by rw [eqv_cy, Bool.eq_iff_iff]; simp) pl_cy ha hb
theorem ed_countI {xs : List Int} {y : Int} (ha : ED ta ρ (dI xs)) (hb : ED tb ρ (.int y)) : ED (tBM K "list" (rCountD K) ta (tCons tb tNil)) ρ (.int (xs.count y : Nat)) := ed_count (f := PyData.int) (n := 0) (fun x y => by rw [eqv_int, Bool.eq_iff_iff]; simp) pl_int ha hb
theorem ed_countB {xs : List Bool} {y : Bool} (ha : ED ta ρ (.list (xs.map PyData.bool))) (hb : ED tb ρ (.bool y)) : ED (tBM K "list" (rCountD K) ta (tCons tb tNil)) ρ (.int (xs.count y : Nat)) := ed_count (f := PyData.bool) (n := 0) (fun x y => by rw [eqv_bool, Bool.eq_iff_iff]; simp) pl_bool ha hb
theorem ed_indexI {xs : List Int} {y : Int} (ha : ED ta ρ (dI xs)) (hb : ED tb ρ (.int y)) (hy : y ∈ xs) : ED (tBM K "list" (rIndexD K) ta (tCons tb tNil)) ρ (.int (xs.idxOf y : Nat)) := ed_index (f := PyData.int) (n := 0) (m := 0) (fun _ _ => eqv_int) ha hb hy pl_int
end
/-! ### x *= e -/
section
variable {X : Cx}
def ipC (C : Int → Int → Prop) (f : Int → Int → Int) : TIp := fun x y H Q => ∃ i j, x = .int i ∧ y = .int j ∧ C i j ∧ Q (.int (f i j)) H
theorem ip_mul : PIp X .Mult (ipC CMul fun i j => i * j) := by
  intro pins s σ H x y v u Q I r1 r2 h
  obtain ⟨i, j, e1, e2, hc, q⟩ := h
  subst e1; subst e2
  obtain ⟨t, rfl⟩ := r1
  obtain ⟨t', rfl⟩ := r2
  exact PySem.P.imul_int ⟨.int _, H, I.tok _, ⟨_, rfl⟩, q⟩ hc.ok
theorem so_augM {E : XK} {ρ : Rho} {te : TE} {P : Out → Prop} {i : Nat} {C : Int → Int → Prop} {f : Int → Int → Int} {a b : Int} (q : ρ[i]? = some (Sl.dat (.int a))) (h : ED te (fz ρ) (.int b)) (hc : C a b) (hp : P (.nxt (ρ.set i (.dat (.int (f a b)))))) : SO E (tAug i te (ipC C f)) ρ P := fun Pv G0 H0 G H σ D s k => by
  obtain ⟨v, e1, e2⟩ := s.vw.dt i _ q
  cases e2
  refine ⟨_, e1, h H H σ s.fz _ fun v G' H' x hv => ?_⟩
  cases hv
  exact ⟨a, b, rfl, rfl, hc, k.nx _ _ G H' hp (.refl _) ((s.more x.h).set (.int _))⟩
end
end Dl

namespace Dl
open PySem L2 Rf
theorem rd_repI {ns : List Int} {j : Int} (h1 : 0 ≤ j) (h2 : j ≤ 1000) (hl : ns.length ≤ 1000) : RD rMulA (dI ns) (.int j) (dI (many ns j.toNat)) := by
  have hm : (ns.map PyData.int).length * j.toNat ≤ 16777216 := by
    rw [List.length_map]
    have h3 : j.toNat ≤ 1000 := by omega
    have := Nat.mul_le_mul hl h3
    omega
  have e : (List.replicate j.toNat (ns.map PyData.int)).flatten = (many ns j.toNat).map PyData.int := by
    rw [← many_flat, List.map_flatten, List.map_replicate]
  show RD rMulA (.list (ns.map PyData.int)) (.int j) (.list ((many ns j.toNat).map PyData.int))
  rw [← e]
  exact (rn_rep h1 hm (by omega)).rd
section
variable {K : PySem.W.Frag} {p q : Int × Int}
theorem rd_eqCy : RD (rEqD K) (cy p) (cy q) (.bool (decide (p = q))) := rd_is (rd_eq (pl_cy p) (pl_cy q)) (congrArg PyData.bool ((eqv_cy p q).trans (decide_eq_decide.mpr Iff.rfl)))
theorem rd_neCy : RD (rNeD K) (cy p) (cy q) (.bool (!decide (p = q))) := rd_is (rd_ne (pl_cy p) (pl_cy q)) (congrArg (fun b => PyData.bool (!b)) ((eqv_cy p q).trans (decide_eq_decide.mpr Iff.rfl)))
end
end Dl

/-! tables of cycles; rows read backwards, doubled, with steps between -/
namespace Rf
open Dl L2
def uq (cs : List (Int × Int)) : List (Int × Int) := cs.take 1 ++ w2 (fun a b => !decide (b = a)) (fun _ b => b) cs
theorem uq_ix (cs : List (Int × Int)) : (((rg 0 (cs.length : Int).toNat).filter fun k => decide (k = 0) || !decide (gI cs k = gI cs (k - 1))).map (gI cs)) = uq cs := by
  cases cs with
  | nil => rfl
  | cons a r =>
    have e : (((a :: r).length : Nat) : Int).toNat = r.length + 1 := by simp
    rw [e, rg_succ, List.filter_cons, if_pos (by simp), List.map_cons]
    have h := w2_ix (fun a b => !decide (b = a)) (fun _ b => b) (a :: r)
    unfold uq
    rw [← h]
    have e2 : (a :: r).length - 1 = r.length := by simp
    rw [e2]
    show _ :: _ = _ :: _
    congr 2
    apply List.filter_congr
    intro k hk
    have := (rg_mem hk).1
    rw [decide_eq_false (by omega : ¬ k = 0), Bool.false_or]
theorem uq_cc (a b : Int × Int) (r : List (Int × Int)) : uq (a :: b :: r) = if b = a then uq (b :: r) else a :: uq (b :: r) := by
  have e1 : uq (a :: b :: r) = a :: (if (!decide (b = a)) = true then b :: w2 (fun a b => !decide (b = a)) (fun _ b => b) (b :: r) else w2 (fun a b => !decide (b = a)) (fun _ b => b) (b :: r)) := rfl
  have e2 : uq (b :: r) = b :: w2 (fun a b => !decide (b = a)) (fun _ b => b) (b :: r) := rfl
  rw [e1, e2]
  by_cases h : b = a
  · subst h; simp
  · simp [h]
theorem uq_mem : ∀ {cs : List (Int × Int)} {p : Int × Int}, p ∈ uq cs ↔ p ∈ cs
  | [], p => Iff.rfl
  | [a], p => Iff.rfl
  | a :: b :: r, p => by
    have ih := uq_mem (cs := b :: r) (p := p)
    rw [uq_cc]
    by_cases h : b = a
    · rw [if_pos h, ih]; subst h; simp
    · rw [if_neg h, List.mem_cons, ih, ← List.mem_cons]
theorem uq_len (cs : List (Int × Int)) : (uq cs).length ≤ cs.length := by
  unfold uq
  have := w2_len (fun a b : Int × Int => !decide (b = a)) (fun _ b => b) cs
  rw [List.length_append, List.length_take]
  cases cs with
  | nil => simp at *; omega
  | cons a r => simp at *; omega
abbrev tab (cs : List (Int × Int)) : List ((Int × Int) × Int) := (uq cs).map fun c => (c, ((cs.count c : Nat) : Int))
/-- backwards -/
theorem pin_rev {l : List Int} {k : Int} : innerAt l.reverse k = innerAt l ((l.length : Int) - 2 - k) := by
  rw [Bool.eq_iff_iff, innerAt_iff, innerAt_iff]
  constructor
  · rintro ⟨s, a, b, c, d, q, e, rfl, i⟩
    refine ⟨q.reverse, d, c, b, a, s.reverse, ?_, ?_, inr_rev.mp i⟩
    · have := congrArg List.reverse e
      rw [List.reverse_reverse] at this
      rw [this]; simp
    · have := congrArg List.length e
      simp at this
      rw [this, List.length_reverse]; omega
  · rintro ⟨s, a, b, c, d, q, rfl, e, i⟩
    refine ⟨q.reverse, d, c, b, a, s.reverse, by simp, ?_, inr_rev.mp i⟩
    simp at e
    rw [List.length_reverse]; omega
theorem pairs_up (l : List Int) : (pairs l).Pairwise (· < ·) := (rg_up 1 _).filter _
theorem pairs_rev (l : List Int) : pairs l.reverse = (pairs l).reverse.map fun k => (l.length : Int) - 2 - k := by
  have h1 := pairs_up l.reverse
  have h2 : ((pairs l).reverse.map fun k => (l.length : Int) - 2 - k).Pairwise (· < ·) := by
    rw [List.pairwise_map, List.pairwise_reverse]
    exact (pairs_up l).imp fun {a b} z => by omega
  have nd1 : (pairs l.reverse).Nodup := h1.imp fun {a b} z => Int.ne_of_lt z
  have nd2 : ((pairs l).reverse.map fun k => (l.length : Int) - 2 - k).Nodup := h2.imp fun {a b} z => Int.ne_of_lt z
  refine List.Perm.eq_of_pairwise (le := fun a b => a < b) (fun a b _ _ z1 z2 => by omega) h1 h2 ((List.perm_ext_iff_of_nodup nd1 nd2).mpr fun k => ?_)
  rw [mem_pairs, pin_rev, List.mem_map]
  constructor
  · intro h
    exact ⟨(l.length : Int) - 2 - k, by rw [List.mem_reverse, mem_pairs]; exact h, by omega⟩
  · rintro ⟨j, hj, rfl⟩
    rw [List.mem_reverse, mem_pairs] at hj
    rw [show (l.length : Int) - 2 - ((l.length : Int) - 2 - j) = j from by omega]
    exact hj
/-- each value twice -/
def dbl : List Int → List Int
  | [] => []
  | x :: l => x :: x :: dbl l
theorem dbl_snoc : ∀ (l : List Int) (x : Int), dbl (l ++ [x]) = dbl l ++ [x, x]
  | [], x => rfl
  | y :: l, x => by show y :: y :: dbl (l ++ [x]) = _; rw [dbl_snoc l x]; rfl
theorem dbl_len : ∀ l : List Int, (dbl l).length = 2 * l.length
  | [] => rfl
  | x :: l => by show (dbl l).length + 1 + 1 = _; rw [dbl_len l, List.length_cons]; omega
theorem dbl_mem : ∀ {l : List Int} {x : Int}, x ∈ dbl l → x ∈ l
  | y :: l, x, h => by
    have h : x ∈ y :: y :: dbl l := h
    simp only [List.mem_cons] at h ⊢
    rcases h with h | h | h
    · exact .inl h
    · exact .inl h
    · exact .inr (dbl_mem h)
theorem dbl_fold : ∀ (l s : List Int), (dbl l).foldl psh s = l.foldl psh s
  | [], s => rfl
  | x :: l, s => by
    show (dbl l).foldl psh (psh (psh s x) x) = l.foldl psh (psh s x)
    obtain ⟨t, e⟩ := psh_ne s x
    rw [e, psh_same, dbl_fold l]
theorem dbl_turned (l : List Int) : turned (dbl l) = turned l := by
  apply List.reverse_inj.mp
  rw [turned_fold, turned_fold, dbl_fold]
/-- a value between -/
theorem psh_mid {b m v : Int} {r : List Int} (h : (b ≤ m ∧ m ≤ v) ∨ (v ≤ m ∧ m ≤ b)) : psh (psh (b :: r) m) v = psh (b :: r) v := by
  by_cases h1 : b = m
  · subst h1; rw [psh_same]
  by_cases h2 : m = v
  · subst h2
    obtain ⟨t, e⟩ := psh_ne (b :: r) m
    rw [e, psh_same]
  cases r with
  | nil =>
    rw [psh_one, if_neg h1, psh_two, if_neg h2, if_neg (by unfold ext; omega), psh_one, if_neg (by omega)]
  | cons p r =>
    rw [psh_two, if_neg h1, psh_two b, if_neg (by omega : ¬ b = v)]
    by_cases h3 : ext p b m
    · rw [if_pos h3, psh_two, if_neg h2, if_neg (by unfold ext; omega), if_pos (by unfold ext at *; omega)]
    · rw [if_neg h3, psh_two, if_neg h2, if_neg (by unfold ext at *; omega), if_neg (by unfold ext at *; omega)]
def way : Int → List Int → List Int
  | _, [] => []
  | b, v :: l => (b + v).fdiv 2 :: v :: way v l
theorem way_snoc : ∀ (l : List Int) (b v : Int), way b (l ++ [v]) = way b l ++ [(((b :: l).getLast?.getD 0) + v).fdiv 2, v]
  | [], b, v => rfl
  | x :: l, b, v => by
    show (b + x).fdiv 2 :: x :: way x (l ++ [v]) = _
    rw [way_snoc l x v, List.getLast?_cons_cons]; rfl
theorem way_len : ∀ (b : Int) (l : List Int), (way b l).length = 2 * l.length
  | _, [] => rfl
  | b, v :: l => by show (way v l).length + 1 + 1 = _; rw [way_len, List.length_cons]; omega
theorem mid_in (a b : Int) : (a ≤ (a + b).fdiv 2 ∧ (a + b).fdiv 2 ≤ b) ∨ (b ≤ (a + b).fdiv 2 ∧ (a + b).fdiv 2 ≤ a) := by
  rw [Int.fdiv_eq_ediv_of_nonneg _ (by omega)]; omega
theorem way_bd {lo hi : Int} : ∀ (l : List Int) (b : Int), (lo ≤ b ∧ b ≤ hi) → (∀ x ∈ l, lo ≤ x ∧ x ≤ hi) → ∀ x ∈ way b l, lo ≤ x ∧ x ≤ hi
  | [], _, _, _ => fun x hx => by cases hx
  | v :: l, b, hb, h => fun x hx => by
    have hv := h v (by simp)
    have hx : x ∈ (b + v).fdiv 2 :: v :: way v l := hx
    have := mid_in b v
    simp only [List.mem_cons] at hx
    rcases hx with rfl | rfl | hx
    · omega
    · exact hv
    · exact way_bd l v hv (fun y hy => h y (List.mem_cons_of_mem _ hy)) x hx
theorem way_last : ∀ (l : List Int) (b : Int), (b :: way b l).getLast? = (b :: l).getLast?
  | [], _ => rfl
  | v :: l, b => by
    have ih := way_last l v
    show (b :: (b + v).fdiv 2 :: v :: way v l).getLast? = _
    rw [List.getLast?_cons_cons, List.getLast?_cons_cons, ih, List.getLast?_cons_cons]
theorem way_fold : ∀ (l : List Int) (b : Int) (r : List Int), (way b l).foldl psh (b :: r) = l.foldl psh (b :: r)
  | [], _, _ => rfl
  | v :: l, b, r => by
    show (way v l).foldl psh (psh (psh (b :: r) ((b + v).fdiv 2)) v) = l.foldl psh (psh (b :: r) v)
    rw [psh_mid (mid_in b v)]
    obtain ⟨t, e⟩ := psh_ne (b :: r) v
    rw [e, way_fold l v t]
theorem way_turned (b : Int) (l : List Int) : turned (b :: way b l) = turned (b :: l) := by
  apply List.reverse_inj.mp
  rw [turned_fold, turned_fold]
  exact way_fold l b []
theorem rep_neg (l : List Int) : rep (l.map fun x => 0 - x) = srtC ((rep l).map fun p => (0 - p.2, 0 - p.1)) := by
  obtain ⟨e1, e2⟩ := sim_neg.row l
  have e3 := (sim_neg.row (re_ l ++ re_ l)).1
  rw [List.map_append] at e3
  show srtC (cy_ (l.map fun x => 0 - x) ++ cy_ (re_ (l.map fun x => 0 - x) ++ re_ (l.map fun x => 0 - x))) = _
  rw [e1, e2, e3]
  apply srtC_congr
  refine List.Perm.trans ((srtC_perm _).append (srtC_perm _)) ?_
  rw [← List.map_append]
  exact ((rep_perm l).symm).map _
end Rf
namespace Dl
open PySem L2 Rf
def tE (e : (Int × Int) × Int) : PyData := .tuple [cy e.1, .int e.2]
abbrev dT (t : List ((Int × Int) × Int)) : PyData := .list (t.map tE)
theorem pl_tE (e : (Int × Int) × Int) : Pl 2 (tE e) := pl_tup fun d h => by
  rcases List.mem_cons.mp h with rfl | h
  · exact pl_cy _
  · rcases List.mem_cons.mp h with rfl | h
    · exact pl_int _
    · cases h
theorem eqv_tE (p q : (Int × Int) × Int) : PyData.eqv (tE p) (tE q) = decide (p = q) := by
  obtain ⟨a, b⟩ := p
  obtain ⟨c, d⟩ := q
  unfold tE
  simp only [PyData.eqv, PyData.eqvAll, Bool.and_true, Bool.beq_eq_decide_eq, Prod.mk.injEq]
  have := eqv_cy a c
  rw [this]
  by_cases h1 : a = c <;> by_cases h2 : b = d <;> simp [h1, h2]
section
variable {K : PySem.W.Frag}
theorem pl_dT (t : List ((Int × Int) × Int)) : Pl 3 (dT t) := pl_map pl_tE t
theorem eqv_dT (a b : List ((Int × Int) × Int)) : PyData.eqv (dT a) (dT b) = decide (a = b) := by
  simp only [PyData.eqv]
  exact eqv_map eqv_tE a b
theorem rd_eqT {a b : List ((Int × Int) × Int)} : RD (rEqD K) (dT a) (dT b) (.bool (decide (a = b))) := by rw [← eqv_dT]; exact rd_eq (pl_dT _) (pl_dT _)
theorem rd_neT {a b : List ((Int × Int) × Int)} : RD (rNeD K) (dT a) (dT b) (.bool (!decide (a = b))) := by rw [← eqv_dT]; exact rd_ne (pl_dT _) (pl_dT _)
theorem cv_tE {α : Type} {l : List α} {e : α → PyData} {x : α → Int × Int} {y : α → Int} (h : ∀ k, e k = .tuple [cy (x k), .int (y k)]) : l.map e = (l.map fun k => (x k, y k)).map tE := by
  rw [List.map_map]
  exact List.map_congr_left fun k _ => h k
end
end Dl

/-! the shape of rests -/
namespace Rf
open Dl L2
/-- gaps without an inner one -/
def Gp (g : List Int) : Prop := ∀ k : Int, 1 ≤ k → k + 1 < g.length → ¬ (gI g k ≤ gI g (k - 1) ∧ gI g k ≤ gI g (k + 1))
theorem nf_gp {l : List Int} (n : Nf l) : Gp (ranges l) := fun k h1 h2 hh => by
  have hl := ranges_len l
  have hp := pairs_nil.mpr n
  rw [← inner_pairs] at hp
  have := List.filter_eq_nil_iff.mp hp k (by rw [mem_rg]; omega)
  rw [decide_eq_true_eq] at this
  exact this (by omega)
theorem gp_down {g : List Int} (h : Gp g) {k : Int} (hk : 0 ≤ k) (h1 : gI g (k + 1) ≤ gI g k) : ∀ n : Nat, (k + 1 + (n + 1) : Int) < g.length → gI g (k + 1 + (n + 1)) < gI g (k + 1 + n)
  | 0, hn => by
    have := h (k + 1) (by omega) (by omega)
    rw [show k + 1 - 1 = k from by omega] at this
    rw [show k + 1 + ((0 : Nat) + 1 : Int) = k + 1 + 1 from by omega, show k + 1 + ((0 : Nat) : Int) = k + 1 from by omega]
    omega
  | n + 1, hn => by
    have ih := gp_down h hk h1 n (by omega)
    have := h (k + 1 + (n + 1)) (by omega) (by omega)
    rw [show k + 1 + ((n : Int) + 1) - 1 = k + 1 + n from by omega] at this
    rw [show k + 1 + (((n + 1 : Nat) : Int) + 1) = k + 1 + (n + 1) + 1 from by omega, show k + 1 + (((n + 1 : Nat) : Int)) = k + 1 + (n + 1) from by omega]
    omega
theorem gp_below {g : List Int} (h : Gp g) {k : Int} (hk : 0 ≤ k) (h1 : gI g (k + 1) ≤ gI g k) : ∀ n : Nat, (k + 1 + n : Int) < g.length → gI g (k + 1 + n) ≤ gI g (k + 1)
  | 0, _ => by rw [show k + 1 + ((0 : Nat) : Int) = k + 1 from by omega]; omega
  | n + 1, hn => by
    have ih := gp_below h hk h1 n (by omega)
    have := gp_down h hk h1 n (by omega)
    rw [show k + 1 + (((n + 1 : Nat) : Int)) = k + 1 + (n + 1) from by omega]
    omega
section
variable {g : List Int} (h : Gp g) (hg : g ≠ [])
theorem top_at (hg : g ≠ []) : ((g.idxOf (lmax g) : Nat) : Int) < g.length ∧ gI g (g.idxOf (lmax g) : Nat) = lmax g ∧ ∀ k : Int, 0 ≤ k → k < (g.idxOf (lmax g) : Nat) → gI g k ≠ lmax g := by
  have hlt := List.idxOf_lt_length_of_mem (lmax_mem hg)
  refine ⟨by omega, ?_, fun k h0 h1 e => ?_⟩
  · rw [gI_nat, List.getD_eq_getElem?_getD, List.getElem?_eq_getElem hlt]
    exact List.getElem_idxOf hlt
  · have hkl : k.toNat < g.length := by omega
    have e2 : g[k.toNat] = lmax g := by
      rw [← e]
      unfold gI
      rw [if_pos h0, List.getD_eq_getElem?_getD, List.getElem?_eq_getElem hkl]; rfl
    have := List.not_of_lt_findIdx (p := fun z => z == lmax g) (xs := g) (i := k.toNat) (by unfold List.idxOf at h1; omega)
    rw [e2] at this
    simp at this
include h hg
theorem gp_up {k : Int} (h0 : 0 ≤ k) (h1 : k < (g.idxOf (lmax g) : Nat)) : gI g k < gI g (k + 1) := by
  obtain ⟨t1, t2, t3⟩ := top_at hg
  by_cases hc : gI g (k + 1) ≤ gI g k
  · have := gp_below h h0 hc ((g.idxOf (lmax g) : Nat) - 1 - k).toNat (by omega)
    rw [show k + 1 + ((((g.idxOf (lmax g) : Nat) - 1 - k).toNat : Nat) : Int) = (g.idxOf (lmax g) : Nat) from by omega, t2] at this
    have h2 := le_lmax (gI_mem (xs := g) (i := k) (by omega) (by omega))
    have h3 := t3 k h0 h1
    omega
  · omega
theorem gp_after (h1 : ((g.idxOf (lmax g) : Nat) : Int) + 1 < g.length) : gI g ((g.idxOf (lmax g) : Nat) + 1) ≤ gI g (g.idxOf (lmax g) : Nat) := by
  obtain ⟨t1, t2, t3⟩ := top_at hg
  rw [t2]
  exact le_lmax (gI_mem (by omega) (by omega))
theorem gp_fall {k : Int} (h0 : (g.idxOf (lmax g) : Nat) < k) (h1 : k + 1 < g.length) : gI g (k + 1) < gI g k := by
  have := gp_down h (k := (g.idxOf (lmax g) : Nat)) (by omega) (gp_after h hg (by omega)) (k - (g.idxOf (lmax g) : Nat) - 1).toNat (by omega)
  rw [show (((g.idxOf (lmax g) : Nat) : Int) + 1 + ((((k - (g.idxOf (lmax g) : Nat) - 1).toNat : Nat) : Int) + 1)) = k + 1 from by omega, show (((g.idxOf (lmax g) : Nat) : Int) + 1 + ((((k - (g.idxOf (lmax g) : Nat) - 1).toNat : Nat) : Int))) = k from by omega] at this
  exact this
theorem gp_less {k : Int} (h0 : ((g.idxOf (lmax g) : Nat) : Int) + 1 < k) (h1 : k < g.length) : gI g k < lmax g := by
  have hf := gp_fall h hg (k := k - 1) (by omega) (by omega)
  rw [show k - 1 + 1 = k from by omega] at hf
  have := le_lmax (gI_mem (xs := g) (i := k - 1) (by omega) (by omega))
  omega
/-- the list around the widest gap -/
theorem gp_split : ∃ A B, g = A ++ lmax g :: B ∧ A.length = g.idxOf (lmax g) ∧ lmax g ∉ A ∧ (B = [] ∨ ∃ b B', B = b :: B' ∧ lmax g ∉ B') := by
  obtain ⟨t1, t2, t3⟩ := top_at hg
  have hlt := List.idxOf_lt_length_of_mem (lmax_mem hg)
  have hgt : g[g.idxOf (lmax g)] = lmax g := List.getElem_idxOf hlt
  have e : g = g.take (g.idxOf (lmax g)) ++ lmax g :: g.drop (g.idxOf (lmax g) + 1) := by
    conv => lhs; rw [← List.take_append_drop (g.idxOf (lmax g)) g, List.drop_eq_getElem_cons hlt, hgt]
  have la : (g.take (g.idxOf (lmax g))).length = g.idxOf (lmax g) := by rw [List.length_take]; omega
  refine ⟨g.take (g.idxOf (lmax g)), g.drop (g.idxOf (lmax g) + 1), e, la, fun hm => ?_, ?_⟩
  · obtain ⟨i, hi, he⟩ := List.mem_iff_getElem.mp hm
    have hi2 : i < g.idxOf (lmax g) := by omega
    refine t3 (i : Nat) (by omega) (by omega) ?_
    rw [gI_nat, List.getD_eq_getElem?_getD, List.getElem?_eq_getElem (by omega)]
    rw [List.getElem_take] at he
    exact he
  · cases hd : g.drop (g.idxOf (lmax g) + 1) with
    | nil => exact .inl rfl
    | cons b B' =>
      refine .inr ⟨b, B', rfl, fun hm => ?_⟩
      have hB : B' = g.drop (g.idxOf (lmax g) + 2) := by
        have := congrArg List.tail hd
        rw [List.tail_drop] at this
        exact this.symm
      rw [hB] at hm
      obtain ⟨i, hi, he⟩ := List.mem_iff_getElem.mp hm
      rw [List.length_drop] at hi
      have hl := gp_less h hg (k := ((g.idxOf (lmax g) + 2 + i : Nat) : Int)) (by omega) (by omega)
      rw [List.getElem_drop] at he
      rw [gI_nat, List.getD_eq_getElem?_getD, List.getElem?_eq_getElem (by omega)] at hl
      simp only [Option.getD_some, he] at hl
      omega
theorem gp_count : g.count (lmax g) = 1 ∨ (g.count (lmax g) = 2 ∧ ((g.idxOf (lmax g) : Nat) : Int) + 1 < g.length ∧ gI g ((g.idxOf (lmax g) : Nat) + 1) = lmax g) := by
  obtain ⟨A, B, e, la, hA, hB⟩ := gp_split h hg
  have hc : g.count (lmax g) = A.count (lmax g) + (lmax g :: B).count (lmax g) := by
    have hx : ∀ z : Int, g.count z = A.count z + (lmax g :: B).count z := fun z => by
      rw [← List.count_append, ← e]
    exact hx _
  rw [List.count_eq_zero_of_not_mem hA, List.count_cons_self] at hc
  rcases hB with rfl | ⟨b, B', rfl, hB'⟩
  · left; simpa using hc
  · by_cases hb : b = lmax g
    · right
      rw [List.count_cons, List.count_eq_zero_of_not_mem hB'] at hc
      refine ⟨by rw [hc, hb]; simp, ?_, ?_⟩
      · have := congrArg List.length e
        simp at this; omega
      · rw [← la]
        have e2 : g = A ++ [lmax g] ++ b :: B' := by simpa using e
        have : gI (A ++ [lmax g] ++ b :: B') ((A ++ [lmax g]).length : Nat) = b := gI_at _ _ _
        rw [← e2] at this
        rw [List.length_append, List.length_singleton] at this
        rw [← hb, ← this]; congr 1
    · left
      rw [List.count_cons, List.count_eq_zero_of_not_mem hB'] at hc
      rw [hc]; simp [hb]
end
/-- around the widest gap all lies within -/
theorem within_right {x y : Int} {v : List Int} (t : isT (x :: y :: v)) (n : Nf (x :: y :: v)) (h : ∀ w ∈ ranges (x :: y :: v), w ≤ ((y - x).natAbs : Int)) : ∀ z ∈ v, min x y ≤ z ∧ z ≤ max x y := by
  match v, t, n, h with
  | [], _, _, _ => intro z hz; cases hz
  | z :: q, t, n, h =>
    have e : ranges (x :: y :: z :: q) = ((y - x).natAbs : Int) :: ((z - y).natAbs : Int) :: ranges (z :: q) := by unfold ranges; simp [w2]
    have hz := h ((z - y).natAbs : Int) (by rw [e]; simp)
    have e1 := t.1
    unfold ext at e1
    intro u hu
    rcases List.mem_cons.mp hu with rfl | hu
    · omega
    · have := shrink t n (by omega) u hu
      omega
theorem ranges_rev (l : List Int) : ∀ w, w ∈ ranges l.reverse ↔ w ∈ ranges l := by
  have key : ∀ l : List Int, ranges l.reverse = (ranges l).reverse := by
    intro l
    induction l with
    | nil => rfl
    | cons a r ih =>
      cases r with
      | nil => rfl
      | cons b r =>
        have e : ranges (a :: b :: r) = ((b - a).natAbs : Int) :: ranges (b :: r) := by unfold ranges; simp [w2]
        rw [e, List.reverse_cons (as := ranges (b :: r)), ← ih, List.reverse_cons, List.reverse_cons, List.append_assoc]
        show ranges (r.reverse ++ [b, a]) = _
        unfold ranges
        rw [w2_snoc, if_pos rfl]
        congr 2
        omega
  intro w
  rw [key, List.mem_reverse]
theorem ranges_suf : ∀ (u v : List Int) (w : Int), w ∈ ranges v → w ∈ ranges (u ++ v)
  | [], _, _, h => h
  | [a], v, w, h => by
    cases v with
    | nil => cases h
    | cons b v =>
      have e : ranges (a :: b :: v) = ((b - a).natAbs : Int) :: ranges (b :: v) := by unfold ranges; simp [w2]
      show w ∈ ranges (a :: b :: v)
      rw [e]; exact List.mem_cons_of_mem _ h
  | a :: b :: u, v, w, h => by
    have ih := ranges_suf (b :: u) v w h
    have e : ranges (a :: b :: (u ++ v)) = ((b - a).natAbs : Int) :: ranges (b :: (u ++ v)) := by unfold ranges; simp [w2]
    show w ∈ ranges (a :: b :: (u ++ v))
    rw [e]; exact List.mem_cons_of_mem _ ih
theorem within {l u v : List Int} {x y : Int} (e : l = u ++ x :: y :: v) (t : isT l) (n : Nf l) (h : ∀ w ∈ ranges l, w ≤ ((y - x).natAbs : Int)) : ∀ z ∈ l, min x y ≤ z ∧ z ≤ max x y := by
  subst e
  have r1 := within_right (isT_app t).2 n.suf (fun w hw => h w (ranges_suf u _ w hw))
  have e2 : (u ++ x :: y :: v).reverse = v.reverse ++ y :: x :: u.reverse := by simp
  have t2 := rev_isT t
  have n2 := n.rev
  rw [e2] at t2 n2
  have r2 := within_right (isT_app t2).2 n2.suf (fun w hw => by
    have := (ranges_rev (u ++ x :: y :: v) w).mp (by rw [e2]; exact ranges_suf _ _ w hw)
    have := h w this
    omega)
  intro z hz
  simp only [List.mem_append, List.mem_cons] at hz
  rcases hz with hz | rfl | rfl | hz
  · have := r2 z (List.mem_reverse.mpr hz); omega
  · omega
  · omega
  · exact r1 z hz
theorem widest {l : List Int} (t : isT l) (n : Nf l) (hg : ranges l ≠ []) : srtI [gI l ((ranges l).idxOf (lmax (ranges l)) : Nat), gI l (((ranges l).idxOf (lmax (ranges l)) : Nat) + 1)] = [lmin l, lmax l] := by
  obtain ⟨t1, t2, _⟩ := top_at hg
  have hl := ranges_len l
  generalize hT : (ranges l).idxOf (lmax (ranges l)) = T at *
  have hT2 : T + 1 < l.length := by omega
  rw [gI_ranges (by omega) (by omega)] at t2
  have e : l = l.take T ++ gI l (T : Nat) :: gI l ((T : Nat) + 1) :: l.drop (T + 2) := by
    have g1 : gI l (T : Nat) = l[T] := by rw [gI_nat, List.getD_eq_getElem?_getD, List.getElem?_eq_getElem (by omega)]; rfl
    have g2 : gI l ((T : Nat) + 1) = l[T + 1] := by rw [show ((T : Nat) : Int) + 1 = ((T + 1 : Nat) : Int) from by omega, gI_nat, List.getD_eq_getElem?_getD, List.getElem?_eq_getElem (by omega)]; rfl
    rw [g1, g2]
    conv => lhs; rw [← List.take_append_drop T l, List.drop_eq_getElem_cons (by omega), List.drop_eq_getElem_cons (by omega)]
  have w := within e t n (fun w hw => by rw [t2]; exact le_lmax hw)
  have hx : gI l (T : Nat) ∈ l := gI_mem (by omega) (by omega)
  have hy : gI l ((T : Nat) + 1) ∈ l := gI_mem (by omega) (by omega)
  have hne : gI l (T : Nat) ≠ gI l ((T : Nat) + 1) := by
    rw [e] at t
    exact isT_ne (isT_app t).2
  generalize gI l (T : Nat) = x at *
  generalize gI l ((T : Nat) + 1) = y at *
  by_cases hxy : x ≤ y
  · have e1 : x = lmin l := lmin_uniq hx fun z hz => by have := w z hz; omega
    have e2 : y = lmax l := lmax_uniq hy fun z hz => by have := w z hz; omega
    rw [← e1, ← e2]
    show ins leI x (ins leI y []) = _
    simp [ins, leI, hxy]
  · have e1 : y = lmin l := lmin_uniq hy fun z hz => by have := w z hz; omega
    have e2 : x = lmax l := lmax_uniq hx fun z hz => by have := w z hz; omega
    rw [← e1, ← e2]
    show ins leI x (ins leI y []) = _
    simp [ins, leI, hxy]
theorem restB_pairs (ns : List Int) : (decide (turned ns = ns) && (pairs ns).isEmpty) = restB ns := by
  rw [Bool.eq_iff_iff, restB_iff, Bool.and_eq_true, decide_eq_true_eq, List.isEmpty_iff, pairs_nil]
  constructor
  · rintro ⟨h1, h2⟩; exact ⟨h1 ▸ turned_isT ns, h2⟩
  · rintro ⟨h1, h2⟩; exact ⟨turned_self h1, h2⟩
theorem restB_dec (ns : List Int) : decide (re_ ns = ns) = restB ns := by
  rw [Bool.eq_iff_iff, decide_eq_true_eq, restB_re_]
open PySem in
def firstD (l : List Int) : PyData := match pairs l with
  | [] => .none
  | k :: _ => .int k
open PySem in
def widD (l : List Int) : PyData := if ranges l = [] then .none else .int ((ranges l).idxOf (lmax (ranges l)) : Nat)
theorem gap_pin {l : List Int} {k : Int} (h1 : 1 ≤ k) (h2 : k + 2 < l.length) : (decide (gI (ranges l) k ≤ gI (ranges l) (k - 1)) && decide (gI (ranges l) k ≤ gI (ranges l) (k + 1))) = pin l k := by
  rw [gI_ranges (by omega) (by omega), gI_ranges (by omega) (by omega), gI_ranges (by omega) (by omega), show k - 1 + 1 = k from by omega, show k + 1 + 1 = k + 2 from by omega]
  unfold pin
  rw [Bool.eq_iff_iff, Bool.and_eq_true, decide_eq_true_eq, decide_eq_true_eq, decide_eq_true_eq]
  unfold inr
  omega
theorem pairs_head {l : List Int} {k : Nat} (h : (1 : Int) + k < (l.length : Int) - 2) (h0 : (rg 1 k).filter (pin l) = []) (h1 : pin l (1 + k) = true) : ∃ r, pairs l = (1 + (k : Int)) :: r := by
  unfold pairs
  obtain ⟨n, hn⟩ : ∃ n : Nat, ((l.length : Int) - 2 - 1).toNat = k + (n + 1) := ⟨((l.length : Int) - 2 - 1).toNat - k - 1, by omega⟩
  have e : rg 1 (k + (n + 1)) = rg 1 k ++ (1 + (k : Int)) :: rg (1 + k + 1) n := by
    have : ∀ (lo : Int) (a b : Nat), rg lo (a + b) = rg lo a ++ rg (lo + a) b := by
      intro lo a b
      unfold rg
      rw [List.range_add, List.map_append, List.map_map]
      congr 1
      apply List.map_congr_left
      intro i _
      simp only [Function.comp_apply]
      omega
    rw [this, rg_succ]
  rw [hn, e, List.filter_append, h0, List.nil_append, List.filter_cons, if_pos h1]
  exact ⟨_, rfl⟩
end Rf

/-! [e for k in range(n)], e with draws -/
namespace Dl
open PySem L2 Rf
theorem ex_lcR {ρ : Rho} {t : TA} {te : TE} {P : PyData → Prop} {n : Int} {i : Nat} (hi : EA t ρ [.int n]) (h0 : 0 ≤ n) (hn : n < 16777216) (hu : ρ[i]? = some Sl.un) (hno : ∀ (j : Nat) ds, ρ[j]? ≠ some (Sl.own ds))
    (he : ∀ k : Int, 0 ≤ k → k < n → EX te (ρ.set i (.dat (.int k))) P) : EX (tLc (iRng1 t) (gName i) tYes te [i]) ρ (fun d => ∃ ds, d = .list ds ∧ ds.length = n.toNat ∧ ∀ d ∈ ds, P d) := fun Pv G0 H0 G H σ s Q q => by
  refine ei_rng1 hi (by omega) (by omega) G H σ s.vw _ fun J G1 H1 x1 wk => fun D hD => ?_
  obtain ⟨fm1, vw1, hs1, p1⟩ := s.grow x1
  have hl : ((rg 0 n.toNat).map PyData.int).length = n.toNat := by rw [List.length_map, rg_len]
  have h0D : H0 D = none := by
    cases e : H0 D with
    | none => rfl
    | some o => exact absurd hD (fm1.k D (by rw [e]; exact Option.some_ne_none _))
  refine ⟨fun j m H2 => m = n.toNat - j ∧ j ≤ n.toNat ∧ ∃ G2 acc ds hs, Same G1 G2 ∧ Fm Pv G0 H0 G2 H2 ∧ Vw G2 H2 σ ρ ∧ Pri Pv H0 G2 H2 σ ρ hs ∧ (∀ j, hs j D = none) ∧ G2 D = none ∧ H2 D = some (.lst acc) ∧ Dvs G2 acc ds ∧ ds.length = j ∧ ∀ d ∈ ds, P d,
    ⟨n.toNat, by simp, Nat.zero_le _, G1, [], [], hs1, .refl _, fm1.grow (.hid x1.e hD), vw1.grow (.hid x1.e hD), p1.grow (.hid x1.e hD), fun j => ?_, x1.e.free hD, upd_same, .nil, rfl, fun d hd => by cases hd⟩, ?_⟩
  · cases e : hs1 j D with
    | none => rfl
    | some o => rw [(p1.hi j D o e).1] at hD; cases hD
  rintro j m H2 ⟨rfl, hle, G2, acc, ds, hs, s12, fm, vw, p, hsD, gD, hA, dA, dl, dP⟩
  have sH : Same G1 H2 := s12.trans fm.e
  by_cases hlt : j < n.toNat
  · refine .inr ⟨wk.go j H2 sH (by rw [hl]; exact hlt), fun H3 => j + 1 ≤ n.toNat ∧ ∃ G2 acc ds hs, Same G1 G2 ∧ Fm Pv G0 H0 G2 H3 ∧ Vw G2 H3 σ ρ ∧ Pri Pv H0 G2 H3 σ ρ hs ∧ (∀ j, hs j D = none) ∧ G2 D = none ∧ H3 D = some (.lst acc) ∧ Dvs G2 acc ds ∧ ds.length = j + 1 ∧ ∀ d ∈ ds, P d,
      fun H3 z => ⟨n.toNat - (j + 1), by omega, rfl, z⟩, fun x H3 y => ?_⟩
    obtain ⟨G3, x3, hx⟩ := wk.yl j (.int (j : Int)) H2 x H3 sH (by rw [List.getElem?_map, rg_get hlt]; show some (PyData.int (0 + (j : Int))) = _; rw [Int.zero_add]) y G2 s12 fm.e
    have fm3 := fm.grow x3
    have vw3 := vw.grow x3
    have p3 := p.grow x3
    have hA3 : H3 D = some (.lst acc) := x3.h _ _ hA
    have gD3 : G3 D = none := x3.f D gD (by rw [hA]; exact Option.some_ne_none _)
    -- the state anew
    have sb : Sta (fun a => ∃ j, hs j a ≠ none) G3 H3 G3 H3 σ ρ := ⟨.refl x3.e, vw3, hs, fun j ds z => absurd z (hno j ds), p3.pv, fun j a o z => ⟨(p3.hi j a o z).1, (p3.hi j a o z).2.1, .inl ⟨j, by rw [z]; exact Option.some_ne_none _⟩⟩, p3.dj⟩
    have e2 : (wipe σ [i]).set i (some x) = σ.set i (some x) := by show (σ.set i none).set i (some x) = _; rw [List.set_set]
    show wipe ((wipe σ [i]).set i (some x)) [i] = wipe σ [i] ∧ _
    refine ⟨by show (((σ.set i none).set i (some x)).set i none) = σ.set i none; rw [List.set_set, List.set_set], ?_⟩
    rw [e2]
    refine et_yes G3 H3 _ (sb.set hx).vw _ fun H4 x4 => iteT ?_
    have sb4 : Sta (fun a => ∃ j, hs j a ≠ none) G3 H3 G3 H4 (σ.set i (some x)) (ρ.set i (.dat (.int j))) := (sb.set hx).more x4
    refine he (j : Int) (by omega) (by omega) _ G3 H3 G3 H4 _ sb4 _ fun v d G5 H5 pd e35 s5 hv => ?_
    obtain ⟨fm5, vw5, hs5, p5⟩ := s5
    have nD : ¬ ∃ j, hs j D ≠ none := fun ⟨j, z⟩ => z (hsD j)
    have hA5 : H5 D = some (.lst acc) := fm5.h D _ nD hA3
    have gD5 : G5 D = none := fm5.f D gD3 (by rw [hA3]; exact Option.some_ne_none _)
    have pvb : ∀ a, (∃ j, hs j a ≠ none) → Pv a ∨ H0 a = none := fun a ⟨j, z⟩ => by
      cases e : hs j a with
      | none => exact absurd e z
      | some o => exact (p.hi j a o e).2.2
    have h03 : ∀ a, H3 a = none → H0 a = none := fun a z => by
      cases e : H0 a with
      | none => rfl
      | some o => exact absurd z (fm3.k a (by rw [e]; exact Option.some_ne_none _))
    have hs5D : ∀ j, hs5 j D = none := fun j => by
      cases e : hs5 j D with
      | none => rfl
      | some o =>
        rcases (p5.hi j D o e).2.2 with z | z
        · exact absurd z nD
        · rw [hA3] at z; cases z
    have se : Same G5 (upd H5 D (.lst (acc ++ [v]))) := fun b o z => by rw [upd_ne (ne_of_none z gD5)]; exact fm5.e b o z
    have hlen := dA.len
    refine ⟨acc, hA5, by rw [hlen, dl]; exact size_lt (by omega), hlt, G5, acc ++ [v], ds ++ [d], hs5, (s12.trans x3.g).trans e35, ⟨fm3.g.trans e35, fun a o np z => ?_, fun a z => ?_, se, fun a z1 z2 => ?_⟩, ⟨se, vw.ln, fun j' d' z => ?_⟩, ⟨fun j ds z => absurd z (hno j ds), fun j' R z => ?_, fun j' a o z => ?_, p5.dj⟩, hs5D, gD5, upd_same, (dA.up (x3.g.trans e35)).app (.cons hv .nil), by rw [List.length_append, dl]; rfl, fun d' hd' => ?_⟩
    · rw [upd_ne (fun w => by rw [w, h0D] at z; cases z)]
      refine fm5.h a o (fun w => ?_) (fm3.h a o np z)
      rcases pvb a w with k | k
      · exact np k
      · rw [z] at k; cases k
    · have : a ≠ D := fun w => by rw [w] at z; exact z h0D
      rw [upd_ne this]
      exact fm5.k a (fm3.k a z)
    · exact fm5.f a (fm3.f a z1 z2) (fm3.k a z2)
    · obtain ⟨u, a1, a2⟩ := vw3.dt j' d' z
      exact ⟨u, a1, a2.up e35⟩
    · have hj : i ≠ j' := fun w => by rw [← w, hu] at z; cases z
      obtain ⟨u, a1, a2⟩ := p5.pv j' R (by rw [List.getElem?_set_ne hj]; exact z)
      exact ⟨u, by rw [List.getElem?_set_ne hj] at a1; exact a1, a2⟩
    · have ha : a ≠ D := fun w => by rw [w, hs5D] at z; cases z
      obtain ⟨a1, a2, a3⟩ := p5.hi j' a o z
      refine ⟨by rw [upd_ne ha]; exact a1, a2, ?_⟩
      rcases a3 with k | k
      · exact pvb a k
      · exact .inr (h03 a k)
    · rcases List.mem_append.mp hd' with hd' | hd'
      · exact dP d' hd'
      · rw [List.mem_singleton] at hd'; rw [hd']; exact pd
  · have e1 : j = n.toNat := by omega
    subst e1
    refine .inl ⟨by have := wk.st H2 sH; rw [hl] at this; exact this, ?_⟩
    have sG : Same G2 (upd G2 D (.lst acc)) := fun b o z => by rw [upd_ne (ne_of_none z gD)]; exact z
    have se : Same (upd G2 D (.lst acc)) H2 := fun b o z => by
      by_cases hb : b = D
      · subst hb; rw [upd_same] at z; cases z; exact hA
      · rw [upd_ne hb] at z; exact fm.e b o z
    refine q (.ref D) (.list ds) (upd G2 D (.lst acc)) H2 ⟨ds, rfl, dl, dP⟩ ((x1.g.trans s12).trans sG) ⟨⟨fm.g.trans sG, fm.h, fm.k, se, fun a z1 z2 => ?_⟩, ⟨se, vw.ln, fun j' d' z => ?_⟩, hs, fun j ds z => absurd z (hno j ds), fun j' R z => ?_, fun j' a o z => ?_, p.dj⟩ (.lst upd_same (dA.up sG))
    · have : a ≠ D := fun w => by rw [w] at z2; exact z2 h0D
      rw [upd_ne this]; exact fm.f a z1 z2
    · obtain ⟨u, a1, a2⟩ := vw.dt j' d' z
      exact ⟨u, a1, a2.up sG⟩
    · obtain ⟨u, a1, a2⟩ := p.pv j' R z
      exact ⟨u, a1, R.mono _ _ _ _ sG a2⟩
    · have ha : a ≠ D := fun w => by rw [w, hsD] at z; cases z
      obtain ⟨a1, a2, a3⟩ := p.hi j' a o z
      exact ⟨a1, by rw [upd_ne ha]; exact a2, a3⟩
theorem rd_catL {K : PySem.W.Frag} {ds es : List PyData} (hl : ds.length + es.length ≤ 16777216) : RD (rAddA K) (.list ds) (.list es) (.list (ds ++ es)) := (rn_cat hl).rd
theorem ints_of : ∀ {ds : List PyData}, (∀ d ∈ ds, ∃ x : Int, d = .int x) → ∃ ls : List Int, ds = ls.map PyData.int
  | [], _ => ⟨[], rfl⟩
  | d :: ds, h => by
    obtain ⟨x, rfl⟩ := h d (by simp)
    obtain ⟨ls, rfl⟩ := ints_of (ds := ds) fun d hd => h d (List.mem_cons_of_mem _ hd)
    exact ⟨x :: ls, rfl⟩
end Dl
namespace Rf
open Dl L2
theorem crn_ix (L : Int) (l : List Int) : ((rg 0 ((l.length : Int) - 1).toNat).filter fun k => !decide (decide (L < gI l k) = decide (L < gI l (k + 1)))).length = crn L l := by
  unfold crn crs
  rw [← w2_ix, List.length_map]
  have h := rg_filter_shift (β := Int) (lo := 0) (n := l.length - 1) (f := fun k => !decide (decide (L < gI l (k - 1)) = decide (L < gI l k))) (f' := fun k => !decide (decide (L < gI l k) = decide (L < gI l (k + 1)))) (e := fun _ => 0) (e' := fun _ => 0) (fun k _ _ => by rw [show k + 1 - 1 = k from by omega]) (fun _ _ _ => rfl)
  have h2 := congrArg List.length h
  rw [List.length_map, List.length_map] at h2
  rw [show ((l.length : Int) - 1).toNat = l.length - 1 from by omega, ← h2]
  rfl
end Rf

set_option maxHeartbeats 8000000
/-! sorted(set(xs)), xs a list of pairs of ints of either sign -/
namespace L2
open PySem PySem.Spec PyProof.Rows SrtO
def pk (ns : List Int) : Int × Int := (ns.getD 0 0, ns.getD 1 0)
theorem pair_isT {P : Program} {w : World} {h : Heap} {k : List Int} {b : Addr} (x : IsT P w h k b) (h2 : k.length = 2) : Srt.IsPair h (.ref b) (pk k).1 (pk k).2 := by
  obtain ⟨_, its, e, ⟨o, ho, hc, n, hd⟩, ia⟩ := tupInts_of x
  cases e
  match k, h2 with
  | [i, j], _ =>
    have hl : its.toList.length = 2 := by have := IntsAre.length ia; simpa using this
    cases its with
    | mk l =>
      match l, ia with
      | [u, v], ia =>
        cases ia with
        | cons _ t1 ia =>
          cases ia with
          | cons _ t2 ia => exact ⟨b, o, t1, t2, n, rfl, ho, hc, hd⟩
section
variable {P : Program} {w : World} {A : Around} {E : Value → Shared → Prop} {s : Shared}
theorem sorted_setP {a : Addr} {L : List (Addr × List Int)} {es : Array (Int × Value)} {ep : Nat} {t : SetTable} {Q : Value → Shared → Prop} (R : SetTR P w s.heap a L es ep t) (hh : A.handled = none) (h2 : ∀ p ∈ L, p.2.length = 2)
    (hQ : ∀ s' p (out : Array Value) (c : Nat) (M : List (Addr × List Int)), (∀ b o, s.heap.get? b = some o → s'.heap.get? b = some o) → s'.gens = s.gens → s'.os = s.os → s.heap.objs.size ≤ p →
      s'.heap.get? p = some (seqObj "list" out c) → out.toList = M.map (fun q => Value.ref q.1) → M.Perm L → M.Pairwise (fun q r => lexB (pk r.2) (pk q.2) = false) → Q (.ref p) s') :
    wpAny (model P w) A (call (.builtin "sorted") [.ref a]) Q E s := by
  obtain ⟨o, ho, hex, hd⟩ := id R.ob
  have fw := R.few
  have sz := R.size
  refine Calls.call_function_entry kind_sorted plain_sorted entry_sorted (args_sorted1 _) ?_
  unfold Builtin.«sorted»
  refine wpAny_bind (m := checkCount "sorted" 1 1 _) (wpAny_pure ?_)
  refine wpAny_bind (collect_set (A := A.in1) hh ⟨o, ho, hex.1, hd⟩ R.fits (by unfold scanBound; omega) R.tab.ris R.led fun s1 vs kp hz gg oo pm => ?_)
  have vals : es.toList.map (·.2) = L.map fun q => Value.ref q.1 := by
    rw [R.rows]; unfold rowsOf; rw [List.map_map]; rfl
  rw [vals] at pm
  have lenV : vs.length < 64 := by rw [pm.length_eq, List.length_map]; exact fw
  refine wpAny_bind (wpAny_newList ?_ (by rw [sizeLine_eq]; omega))
  have atL : (s1.heap.push (seqObj "list" vs.toArray 0)).get? s1.heap.objs.size = some (seqObj "list" vs.toArray 0) := Heap.get?_push_size _ rfl
  have upT : ∀ q ∈ L, IsT P w (s1.heap.push (seqObj "list" vs.toArray 0)) q.2 q.1 := fun q hq => isT_keep (R.tup q hq) fun b u e => Heap.get?_push_of_some _ (kp b u e)
  have rd : ∀ q ∈ L, TS.intsOf (s1.heap.push (seqObj "list" vs.toArray 0)) (.ref q.1) = q.2 := fun q hq => (tupInts_of (upT q hq)).ints
  refine wpAny_bind (wpAny_holding (wpAny_call_entry slot_list_sort (s := { s1 with heap := s1.heap.push (seqObj "list" vs.toArray 0) }) ⟨_, atL, rfl⟩ entry_list_sort (list_sort_ord (ltv := fun v u => lexB (pk (TS.intsOf (s1.heap.push (seqObj "list" vs.toArray 0)) v)) (pk (TS.intsOf (s1.heap.push (seqObj "list" vs.toArray 0)) u))) (swo_lex _) atL (by rw [sizeLine_eq]; omega) (fun hm => ?_) fun out hs hb => ⟨_, rfl, ?_⟩) (args_list_sort _)))
  · refine pairs_sortableO (by omega) (fun v hv => ?_) (fun o e => ?_)
    · obtain ⟨q, hq, e⟩ := List.mem_map.mp (pm.mem_iff.mp hv)
      rw [← e, rd q hq]
      exact pair_isT (upT q hq) (h2 q hq)
    · have e' := e.symm.trans atL
      cases e'
      intro c
      exact absurd (Value.type.inj c) (by decide)
  · -- which rows the values are
    have ord : ∀ us : List Value, (∀ v ∈ us, ∃ q ∈ L, v = Value.ref q.1) → ∃ M : List (Addr × List Int), us = M.map (fun q => Value.ref q.1) ∧ ∀ q ∈ M, q ∈ L := by
      intro us
      induction us with
      | nil => exact fun _ => ⟨[], rfl, fun q hq => nomatch hq⟩
      | cons v us ih =>
        intro hv
        obtain ⟨q, hq, e⟩ := hv v (by simp)
        obtain ⟨M, e1, hM⟩ := ih fun u hu => hv u (by simp [hu])
        exact ⟨q :: M, by rw [e, e1]; rfl, fun r hr => by
          rcases List.mem_cons.mp hr with z | z
          · rw [z]; exact hq
          · exact hM r z⟩
    have uni : ∀ q ∈ L, ∀ r ∈ L, q.1 = r.1 → q = r := fun q hq r hr e => Prod.ext e (by
      have a1 := R.tup q hq
      rw [e] at a1
      exact a1.inj (R.tup r hr))
    have memO : ∀ v ∈ out, ∃ q ∈ L, v = Value.ref q.1 := fun v hv => by
      obtain ⟨q, hq, e⟩ := List.mem_map.mp (pm.mem_iff.mp (hb.perm.mem_iff.mp hv))
      exact ⟨q, hq, e.symm⟩
    obtain ⟨M, eM, hM⟩ := ord out memO
    have nL : L.Nodup := nodup_of_map R.nd
    have nR : (L.map fun q => Value.ref q.1).Nodup := List.pairwise_map.mpr (List.Pairwise.imp_of_mem (fun {q r} hq hr ne e => ne (uni q hq r hr (Value.ref.inj e))) nL)
    have pmM : (M.map fun q => Value.ref q.1).Perm (L.map fun q => Value.ref q.1) := by rw [← eM]; exact hb.perm.trans pm
    have nM : M.Nodup := nodup_of_map (pmM.nodup_iff.mpr nR)
    have pML : M.Perm L := (List.perm_ext_iff_of_nodup nM nL).mpr fun q => ⟨hM q, fun hq => by
      obtain ⟨r, hr, e⟩ := List.mem_map.mp (pmM.mem_iff.mpr (List.mem_map.mpr ⟨q, hq, rfl⟩))
      rw [← uni r (hM r hr) q hq (Value.ref.inj e)]
      exact hr⟩
    have pw : M.Pairwise (fun q r => lexB (pk r.2) (pk q.2) = false) := by
      have hs' : out.Pairwise (fun v u => lexB (pk (TS.intsOf (s1.heap.push (seqObj "list" vs.toArray 0)) u)) (pk (TS.intsOf (s1.heap.push (seqObj "list" vs.toArray 0)) v)) = false) := hs
      rw [eM] at hs'
      refine List.Pairwise.imp_of_mem (fun {q r} hq hr hle => ?_) (List.pairwise_map.mp hs')
      rw [rd q (hM q hq), rd r (hM r hr)] at hle
      exact hle
    obtain ⟨c, hc⟩ := sortedHeap_at (vs := vs) (out := out.toArray) atL
    refine wpAny_pure ⟨_, rfl, hQ _ s1.heap.objs.size out.toArray c M (fun b u e => ?_) gg oo hz hc (by simpa using eM) pML pw⟩
    have e1 := kp b u e
    have lt := Heap.lt_size e1
    show (sortedHeap _ _ vs _).get? b = some u
    rw [sortedHeap_old (Nat.ne_of_lt lt) (by rw [size_push']; exact Nat.lt_succ_of_lt lt)]
    exact Heap.get?_push_of_some _ e1
end
section
variable {X : Cx}
def rSrtSP (K : PySem.W.Frag) (P : Program) (w : World) : List V → Hp → VK → Prop := fun vs H Q => ∃ (a : Addr) (L : List (Addr × List Int)), vs = [V.ref a] ∧ H a = some (SetTO P w a L) ∧ (∀ p ∈ L, SqT K H p.1 (p.2.map V.int)) ∧ (∀ p ∈ L, p.2.length = 2) ∧
  ∀ (M : List (Addr × List Int)) (p : Addr), M.Perm L → (M.map (·.2)).Nodup → M.length < 64 → M.Pairwise (fun q r => lexB (pk r.2) (pk q.2) = false) → H p = none → Q (.ref p) (upd H p (.lst (M.map fun q => V.ref q.1)))
theorem cr_srtSP (hc : X.calm = true) : CallR X (.builtin "sorted") (rSrtSP X.K X.prog X.w) := by
  intro pins s σ H vs us Q I r h
  obtain ⟨a, L, rfl, ha, hk, h2, q⟩ := h
  obtain ⟨es, ep, t, R⟩ := SetT0.full ((I.hok a _ ha).1) (fun p hp => I.isT (hk p hp))
  rw [Vals.ref1 r]
  refine sorted_setP R (I.ok.hd hc) h2 fun s' p out c M kp gg oo hp hg hout pm pw => ?_
  have few : M.length < 64 := by rw [pm.length_eq]; exact R.few
  have ll : (M.map fun q => V.ref q.1).length ≤ sizeLine := by rw [List.length_map, sizeLine_eq]; omega
  have fr : H p = none := I.hok.fresh hp
  have vv : Vals (M.map fun q => V.ref q.1) out.toList := by rw [hout]; exact vals_of_refs M
  obtain ⟨h', g', d', t', o'⟩ := s'
  cases (show o' = s.os from oo)
  have ok1 : ObjOk X.prog X.w (upd H p (.lst (M.map fun q => V.ref q.1))) h' p (.lst (M.map fun q => V.ref q.1)) := ⟨ll, out.toList, c, vv, hg⟩
  have bare : AllBare g' := by rw [show g' = s.gens from gg]; exact I.bare
  have J : Inv X pins σ (upd H p (.lst (M.map fun q => V.ref q.1))) { s with heap := h', gens := g', drawn := d', toks := t' } := I.call (ch := []) (Un.laid kp hp fr) (I.hok.laid kp hp ok1) bare (fun _ z => nomatch z)
  exact ⟨.ref p, _, J, rfl, q M p pm ((pm.map (·.2)).nodup_iff.mpr R.nd) few pw fr⟩
end
end L2
namespace Dl
open PySem L2 Rf
section
variable {X : Cx} {K : PySem.W.Frag} {P : Program} {w : World}
theorem cb_srtSetP (hK : X.K = K) (hP : X.prog = P) (hw : X.w = w) (hc : X.calm = true) : CallR X (.builtin "sorted") (rSrtSP K P w) := by subst hK hP hw; exact cr_srtSP hc
theorem cb_setT (hK : X.K = K) (hP : X.prog = P) (hw : X.w = w) (hc : X.calm = true) (hu : X.A.units + 65 < cLine) : CallR X (.type "set") (rSetOfT K P w) := by subst hK hP hw; exact cr_setOfT hc (by omega)
theorem refs_of : ∀ {cs : List (Int × Int)} {G : Hp} {xs : List V}, Dvs G xs (cs.map cy) → ∃ ks : List (Addr × List Int), xs = ks.map (fun p => V.ref p.1) ∧ ks.map (fun p => p.2) = cs.map (fun c => [c.1, c.2]) ∧ ∀ p ∈ ks, G p.1 = some (.tup (p.2.map V.int))
  | [], G, _, .nil => ⟨[], rfl, rfl, fun p hp => nomatch hp⟩
  | c :: cs, G, _, .cons h t => by
    obtain ⟨ks, rfl, e2, h3⟩ := refs_of t
    cases h with
    | @tup a ys _ g1 g2 =>
      cases g2 with
      | cons i1 g2 =>
        cases g2 with
        | cons i2 g2 =>
          cases g2
          cases i1
          cases i2
          exact ⟨(a, [c.1, c.2]) :: ks, rfl, by rw [List.map_cons, List.map_cons, e2], fun p hp => by
            rcases List.mem_cons.mp hp with rfl | hp
            · exact g1
            · exact h3 p hp⟩
/-- sorted(set(xs)) -/
theorem ed_ssetC {ρ : Rho} {ta : TE} {cs ms : List (Int × Int)} (h : ED ta ρ (dC cs)) (hl : cs.length < 64) (hm : ms.Pairwise (fun a b => leC a b = true ∧ a ≠ b)) (hq : ∀ k, k ∈ ms ↔ k ∈ cs) : ED (tCB (rSrtSP K P w) (tCons (tCB (rSetOfT K P w) (tCons ta tNil)) tNil)) ρ (dC ms) := fun G H σ v Q q =>
  h G H σ v _ fun u G1 H1 x1 hd => by
    cases hd with
    | lst k1 k2 =>
      obtain ⟨ks, rfl, e2, h3⟩ := refs_of k2
      have hlen : ks.length = cs.length := by have := congrArg List.length e2; simpa using this
      have key : ∀ p ∈ ks, ∃ c ∈ cs, p.2 = [c.1, c.2] := fun p hp => by
        have : p.2 ∈ cs.map (fun c => [c.1, c.2]) := by rw [← e2]; exact List.mem_map.mpr ⟨p, hp, rfl⟩
        obtain ⟨c, hc, e⟩ := List.mem_map.mp this
        exact ⟨c, hc, e.symm⟩
      refine ⟨_, ks, rfl, SqL.of (x1.e _ _ k1), fun p hp => SqT.of (x1.e _ _ (h3 p hp)), by omega, fun a L ha hLk hkL => ?_⟩
      have x2 := x1.trans (Gr.hid (o := SetTO P w a L) x1.e ha)
      have up : ∀ p ∈ L, (upd H1 a (SetTO P w a L)) p.1 = some (.tup (p.2.map V.int)) := fun p hp => by
        have := h3 p (hLk p hp)
        exact x2.e _ _ this
      refine ⟨a, L, rfl, upd_same, fun p hp => SqT.of (up p hp), fun p hp => by obtain ⟨c, _, e⟩ := key p (hLk p hp); rw [e]; rfl, fun M p pm nd few pw hp => ?_⟩
      have hM : ∀ r ∈ M, r ∈ ks := fun r hr => hLk r (pm.mem_iff.mp hr)
      have e : M.map (fun r => pk r.2) = ms := by
        have srt : (M.map fun r => pk r.2).Pairwise (fun a b => leC a b = true) := by
          rw [List.pairwise_map]
          refine pw.imp fun {a b} z => ?_
          have := SrtO.lexB_no.mp z
          rw [leC_iff]; omega
        have inj : ∀ r ∈ M, ∀ r' ∈ M, pk r.2 = pk r'.2 → r.2 = r'.2 := fun r hr r' hr' z => by
          obtain ⟨c, _, ec⟩ := key r (hM r hr)
          obtain ⟨c', _, ec'⟩ := key r' (hM r' hr')
          rw [ec, ec'] at z ⊢
          have z1 : c.1 = c'.1 := congrArg Prod.fst z
          have z2 : c.2 = c'.2 := congrArg Prod.snd z
          rw [z1, z2]
        have nd1 : (M.map fun r => pk r.2).Nodup := by
          have nd' := List.pairwise_map.mp nd
          exact List.pairwise_map.mpr (nd'.imp_of_mem fun {a b} ha hb ne z => ne (inj a ha b hb z))
        have nd2 : ms.Nodup := hm.imp fun {a b} z => z.2
        refine List.Perm.eq_of_pairwise (le := fun a b => leC a b = true) (fun a b _ _ z1 z2 => leC_anti z1 z2) srt (hm.imp fun {a b} z => z.1) ((List.perm_ext_iff_of_nodup nd1 nd2).mpr fun k => ?_)
        rw [hq, List.mem_map]
        constructor
        · rintro ⟨r, hr, rfl⟩
          obtain ⟨c, hc, ec⟩ := key r (hM r hr)
          rw [ec]; exact hc
        · intro hk
          have hk2 : [k.1, k.2] ∈ ks.map (fun p => p.2) := by rw [e2]; exact List.mem_map.mpr ⟨k, hk, rfl⟩
          obtain ⟨r, hr, er⟩ := List.mem_map.mp hk2
          obtain ⟨r2, hr2, er2⟩ := List.mem_map.mp (hkL r hr)
          exact ⟨r2, pm.mem_iff.mpr hr2, by rw [er2, er]; rfl⟩
      have x3 := x2.trans (.new (o := .lst (M.map fun q => V.ref q.1)) x2.e hp)
      have el : ∀ (M : List (Addr × List Int)), (∀ r ∈ M, r ∈ ks) → Dvs G1 (M.map fun q => V.ref q.1) ((M.map fun r => pk r.2).map cy) := by
        intro M
        induction M with
        | nil => exact fun _ => .nil
        | cons r M ih =>
          intro hr
          obtain ⟨c, _, ec⟩ := key r (hr r (by simp))
          have g1 := h3 r (hr r (by simp))
          rw [ec] at g1
          refine .cons (.tup (ds := [.int (pk r.2).1, .int (pk r.2).2]) g1 ?_) (ih fun r' hr' => hr r' (by simp [hr']))
          rw [ec]
          exact .cons (.int _) (.cons (.int _) .nil)
      have hp1 : G1 p = none := by
        cases z : G1 p with
        | none => rfl
        | some o => have := x2.e _ _ z; rw [hp] at this; cases this
      refine q _ _ _ x3 (.lst upd_same ?_)
      rw [← e]
      exact (el M hM).up (same_new hp1)
end
end Dl

/-! a caught exception that is kept in a local behind its except suite -/
namespace Dl
open PySem PySem.Spec L2 Rf
/-- an exception of the class at C, without a dict -/
def ExO (a C : Addr) : HO := .ext fun h => ∃ o vs, h.get? a = some o ∧ Zc (.ref C) none o ∧ o.data = .fields vs
section
variable {X : Cx} {pins : List (Addr × Obj)} {σ : St} {H : Hp} {s : Shared} {a C : Addr} {oe : Obj}
theorem trk (ok : X.Ok) (I : Inv (X.suite a ((a, oe) :: (X.pn ++ pins))) [] σ H s) (hz : Zc (.ref C) none oe) (hf : ∃ vs, oe.data = .fields vs)
    (h0 : ∀ b o, X.s_0.heap.get? b = some o → X.H_0 b = none → b ∉ X.ex → b ≠ a) (hp : ∀ p ∈ X.pn ++ pins, p.1 ≠ a) : Inv X pins σ (upd H a (ExO a C)) s := by
  obtain ⟨q1, q2, q3, q4, q5⟩ := I.pin (a, oe) (by simp)
  obtain ⟨vs, hv⟩ := hf
  have ne : ∀ {b : Addr} {u : HO}, H b = some u → b ≠ a := fun e z => by rw [z, q2] at e; cases e
  refine ⟨ok, I.os, I.bare, ⟨I.base.keep, I.base.slot, fun b o e n x => ?_, I.base.there, fun b xs e => ?_, fun b o u e => ?_, fun b ps e => ?_⟩, I.loc, I.cell, ?_, fun x c e => ?_, fun p h => ?_, fun b o e => ?_, I.len⟩
  · rw [upd_ne (h0 b o e n x)]; exact I.base.free b o e n x
  · have z := I.base.tups b xs e
    rw [upd_ne (ne z)]; exact z
  · have z := I.base.frzs b o u e
    rw [upd_ne (ne z)]; exact z
  · obtain ⟨more, z⟩ := I.base.tbls b ps e
    exact ⟨more, by rw [upd_ne (ne z)]; exact z⟩
  · rw [upd_ne (Ne.symm q3)]; exact I.free
  · have : c ≠ a := fun z => by
      obtain ⟨v, w⟩ := I.cell x c e
      rw [z] at w
      obtain ⟨o, w1, w2⟩ := w
      rw [q1] at w1; cases w1
      exact q5 v w2
    rw [upd_ne this]; exact I.freeC x c e
  · obtain ⟨r1, r2, r3, r4, r5⟩ := I.pin p (by
      show p ∈ ((a, oe) :: (X.pn ++ pins)) ++ []
      rw [List.append_nil]; exact List.mem_cons_of_mem _ h)
    exact ⟨r1, by rw [upd_ne (hp p h)]; exact r2, r3, r4, r5⟩
  · by_cases hb : b = a
    · subst hb
      rw [upd_same] at e; cases e
      refine ⟨⟨oe, vs, q1, hz, hv⟩, ⟨oe, q1⟩, fun h1 h2 ⟨o, ws, z1, z2, z3⟩ k => ⟨o, ws, k o z1, z2, z3⟩⟩
    · rw [upd_ne hb] at e
      refine (I.hok b o e).stay (fun _ _ _ z => z) (fun c z => ?_) (fun c xs z => ?_)
      · rw [upd_ne (ne z)]; exact z
      · rw [upd_ne (ne z)]; exact z
end
/-- what 'except x as n: ..' with a suite ts wishes of the body's exceptions: each is caught, and stays behind the suite -/
def wKeep (K : PySem.W.Frag) (c : Value) (i : Nat) (ts : Addr → TS) (D : Ends) : WX := fun cls d σ H =>
  ∃ C, cls = .ref C ∧ d = none ∧ PySem.W.exmOne K cls c = some true ∧ ∀ a, H a = none →
    ts a { nx := fun σ' H' => H' a = none → D.nx (σ'.set i none) (upd H' a (ExO a C)), rt := fun _ _ => False, bk := fun _ _ => False, ct := fun _ _ => False } (σ.set i (some (.ref a))) H
section
variable {X : Cx} {x n : Str} {c : Value} {i : Nat} {bd su : List Stmt} {s1 : Stmt} {p1 p2 p3 : Pos} {tb : WX → TS} {ts : Addr → TS}
theorem ps_try_keep (hst : X.stack = X.env :: X.outer) (hfm : X.env.frame = some X.env.locals) (hnd : X.N.Nodup) (hni : X.N[i]? = some n) (hnl : X.env.kindOf n = some .local) (hcl : Names X x c)
    (hbd : ∀ Z pp xx, Takes (X.tr pp xx) Z → PassesOwn (model X.prog X.w) X.A X.env xx → PSs (X.tr pp xx) bd (tb Z))
    (hsu : ∀ a oe pp, (∃ vs, oe.data = .fields vs) → PSs (X.suite a ((a, oe) :: pp)) (s1 :: su) (ts a)) :
    PS X (.Try bd [.ExceptHandler (some (.Name x p1)) (some n) (s1 :: su) p2] [] [] p3) (fun D σ H => tb (wKeep X.K c i ts D) D σ H) := by
  constructor
  intro pins s σ H D I hw
  have okX := I.ok
  have frX : X.A.frames = some (X.env :: X.outer) := okX.frames.trans (congrArg some hst)
  apply wpAny_Try_except
  have B0 := hbd (wKeep X.K c i ts D) (X.pn ++ pins) (fun e t1 => wpAny (model X.prog X.w) X.A (noteFrame e X.env) (fun _ t2 => wpAny (model X.prog X.w) X.A (setFlight e none) (fun _ t3 =>
    wpAny (model X.prog X.w) X.A (handleBy e X.env [.ExceptHandler (some (.Name x p1)) (some n) (s1 :: su) p2]) (SP X pins D) X.xe t3) X.xe t2) X.xe t1)
  refine wpAny_mono ((B0 ?caught PassesOwn.looking).run [] s σ H D (I.toTry _) hw) ?through (fun _ _ z => z)
  case through =>
    intro f t hsp
    cases f with
    | next => obtain ⟨σ', H', J, q⟩ := hsp; exact wpAny_execs_nil ⟨σ', H', J.ofTry okX, q⟩
    | brk => obtain ⟨σ', H', J, q⟩ := hsp; exact ⟨σ', H', J.ofTry okX, q⟩
    | cont => obtain ⟨σ', H', J, q⟩ := hsp; exact ⟨σ', H', J.ofTry okX, q⟩
    | ret u => obtain ⟨v, σ', H', J, r, q⟩ := hsp; exact ⟨v, σ', H', J.ofTry okX, r, q⟩
  case caught =>
    rintro u t ⟨a, B, tI, pins', σ', H', cls, d, rfl, J', nb, up, sky, na, os, ag, C, rfl, rfl, hm, go⟩
    have J : Inv X pins σ' H' tI := J'.ofTry okX
    rw [hst] at sky
    refine Sky.land Zc.steady frX hfm sky fun h3 fl3 up3 => ?_
    have aB : B.get? a = none := fl3.2.1
    have J3 : Inv X pins σ' H' { t with heap := h3 } := J.landed nb fl3.1 (up.trans up3) os ag
    obtain ⟨o3, w3, e3, z3, d3⟩ := fl3.there
    have out : a ∉ frs (X.env :: X.outer) := fun hin => by
      obtain ⟨_, o', e', hno⟩ := fl3.2.2.1.mem hin
      rw [e3] at e'; cases e'
      exact hno _ d3
    have outL : a ≠ X.env.locals := fun z => out (List.mem_filterMap.mpr ⟨X.env, List.mem_cons_self, by rw [hfm, z]⟩)
    have outF : a ∉ X.fs := fun hin => by
      obtain ⟨e, he, q⟩ := List.mem_filterMap.mp hin
      exact out (List.mem_filterMap.mpr ⟨e, List.mem_cons_of_mem _ he, q⟩)
    have inB : ∀ b o, tI.heap.get? b = some o → b ∉ frs X.stack → b ≠ a := fun b o e hb z => by
      have := nb b o e hb
      rw [z, aB] at this; cases this
    have frsX : ∀ b, b ∈ frs X.stack → b = X.env.locals ∨ b ∈ X.fs := fun b hb => by
      rw [hst] at hb
      obtain ⟨e, he, q⟩ := List.mem_filterMap.mp hb
      rcases List.mem_cons.mp he with rfl | he
      · rw [hfm] at q; cases q; exact .inl rfl
      · exact .inr (List.mem_filterMap.mpr ⟨e, he, q⟩)
    have old : ∀ b o, X.s_0.heap.get? b = some o → X.H_0 b = none → b ∉ X.ex → b ≠ a := fun b o e n hx z => by
      by_cases hb : b ∈ X.fs
      · exact outF (z ▸ hb)
      · refine inB b o (J.base.keep b o e n hb hx) (fun hin => ?_) z
        rcases frsX b hin with w | w
        · exact outL (z.symm.trans w)
        · exact hb w
    have pinned : ∀ p ∈ X.pn ++ pins, p.1 ≠ a := fun p hp z => by
      obtain ⟨r1, r2, r3, r4, r5⟩ := J.pin p hp
      refine inB p.1 p.2 r1 (fun hin => ?_) z
      rcases frsX p.1 hin with w | w
      · exact r3 w
      · exact r4 w
    have S3 := J3.suite e3 d3 na outL outF
    refine wpAny_handleBy_cons (codeAny_handlers_test ?_) (fun q => by cases q)
    have ty3 : PySem.W.Looks (model X.prog X.w) h3 (typeOf (.ref a)) (.ref C) := fun A Q E s k q => wpAny_typeOf_ref (k _ _ e3) (by rw [z3.1]; exact q)
    have mt3 := PySem.W.exm_one (M := model X.prog X.w) J3.kIn ty3 hm
    have nm : ∀ {Q E : Value → Shared → Prop}, Q c { t with heap := h3 } → wpAny (model X.prog X.w) (X.A.mark (some (.ref a))) (eval (.Name x p1) X.env) Q E { t with heap := h3 } := fun {Q E} q => by
      rcases hcl with ⟨hg, hdb, w | ⟨w1, w2, w3⟩⟩
      · exact ld_glob (X := X.suite a ((a, o3) :: (X.pn ++ pins))) S3 hg w q hdb
      · exact ld_blt (X := X.suite a ((a, o3) :: (X.pn ++ pins))) S3 hg w1 w2 q w3 hdb
    refine nm (mt3.here (codeAny_handlers_suite_as (HandSPX.lands_againZ fl3 fun h4 fl4 up4 => ?_)))
    have J4 : Inv X pins σ' H' { t with heap := h4 } := J.landed nb fl4.1 ((up.trans up3).trans up4) os ag
    obtain ⟨o4, w4, e4, z4, d4⟩ := fl4.there
    have S4 := J4.suite e4 d4 na outL outF
    refine store_ok (X := X.suite a ((a, o4) :: (X.pn ++ pins))) (v := .ref a) S4 hnd hni (.inl hnl) rfl (fun s5 S5 => ?_) (.inr hnl)
    refine wpAny_mono ((hsu a o4 (X.pn ++ pins) ⟨_, d4⟩).run [] s5 _ H' _ S5 (go a na)) (fun f s6 hsp => ?_) (fun _ _ z => z.elim)
    cases f with
    | next =>
      obtain ⟨σ6, H6, S6, q6⟩ := hsp
      refine gone_ok (X := X.suite a ((a, o4) :: (X.pn ++ pins))) S6 hnd hni hnl fun s7 S7 => ?_
      have n7 : H6 a = none := (S7.pin (a, o4) (by simp)).2.1
      exact ⟨_, _, trk okX S7 z4 ⟨_, d4⟩ old pinned, q6 n7⟩
    | brk => obtain ⟨σ6, H6, S6, q6⟩ := hsp; exact q6.elim
    | cont => obtain ⟨σ6, H6, S6, q6⟩ := hsp; exact q6.elim
    | ret u => obtain ⟨v6, σ6, H6, S6, r6, q6⟩ := hsp; exact q6.elim
end
end Dl

namespace Dl
open PySem PySem.Spec L2 Rf
section
variable {ρ : Rho} {ta tb : TE} {K : PySem.W.Frag}
theorem ed_indexB {xs : List Bool} {y : Bool} (ha : ED ta ρ (.list (xs.map PyData.bool))) (hb : ED tb ρ (.bool y)) (hy : y ∈ xs) : ED (tBM K "list" (rIndexD K) ta (tCons tb tNil)) ρ (.int (xs.idxOf y : Nat)) := ed_index (f := PyData.bool) (n := 0) (m := 0) (fun _ _ => eqv_bool) ha hb hy pl_bool
theorem pl_str {n : Nat} {i : Str} (h : PyData.strOk i = true) : Pl n (.str i) := ⟨by simp [PyData.canLay0, h], by simp [PyData.depth]⟩
theorem eqv_str {x y : Str} : PyData.eqv (.str x) (.str y) = decide (x = y) := by simp only [PyData.eqv]; rw [Bool.beq_eq_decide_eq]
theorem rd_eqS {x y : Str} (hx : PyData.strOk x = true) (hy : PyData.strOk y = true) : RD (rEqD K) (.str x) (.str y) (.bool (decide (x = y))) := by rw [← eqv_str]; exact rd_eq (n := 0) (m := 0) (pl_str hx) (pl_str hy)
theorem rd_neS {x y : Str} (hx : PyData.strOk x = true) (hy : PyData.strOk y = true) : RD (rNeD K) (.str x) (.str y) (.bool (!decide (x = y))) := by rw [← eqv_str]; exact rd_ne (n := 0) (m := 0) (pl_str hx) (pl_str hy)
end
/-! isinstance of a kept exception -/
def rIsX (K : PySem.W.Frag) : List V → Hp → VK → Prop := fun xs H Q => ∃ (a C : Addr) (c : V) (u : Value) (b : Bool), xs = [.ref a, c] ∧ H a = some (ExO a C) ∧ ExcC K C ∧ ClsV c u ∧ PySem.W.kitOne K (.ref C) u = some b ∧ Q (.bl b) H
theorem call_isX {X : Cx} : CallR X (.builtin "isinstance") (rIsX X.K) := by
  intro pins s σ H xs us Q I r h
  obtain ⟨a, C, c, u, b, rfl, hH, hC, hc, hk, q⟩ := h
  cases r with
  | cons r1 r2 =>
    cases r2 with
    | cons r2 r3 =>
      cases r3
      cases r1
      have e2 := hc.eq r2
      subst e2
      obtain ⟨⟨o, vs, h1, ⟨z1, z2⟩, h3⟩, _⟩ := (show ObjOk X.prog X.w H s.heap a (ExO a C) from I.hok a _ hH)
      have J : PySem.W.InstAt s.heap a o C none := ⟨h1, z1, by unfold PySem.W.notCls; rw [h3], by rw [z2]; trivial⟩
      exact PySem.W.kia_one (PySem.W.handS_kitx_exc hC.hg hC.hk hC.hs hC.hd hC.ha hC.hn hC.ht hC.hm) I.kIn J hk (fun z => nomatch z) fun tk => ⟨.bl b, H, I.tok tk, rfl, q⟩
theorem cb_isXK {X : Cx} {K : PySem.W.Frag} (h : X.K = K) : CallR X (.builtin "isinstance") (rIsX K) := h ▸ call_isX
theorem kit_own {K : PySem.W.Frag} {D C : Addr} {b : Bool} (h0 : PySem.W.subIn K (.ref D) (.ref D) = some true) (hd : PySem.W.hasDictIn K C = true) (ht : PySem.W.typeIn K (.ref C) = some (.type "type")) (hs : PySem.W.subIn K (.ref D) (.ref C) = some b) : PySem.W.kitOne K (.ref D) (.ref C) = some b := by
  unfold PySem.W.kitOne
  by_cases h : (Value.ref D == Value.ref C) = true
  · rw [if_pos h]
    have e : D = C := Value.ref.inj (beq_iff_eq.mp h)
    subst e
    rw [h0] at hs; exact hs
  · rw [if_neg h]
    obtain ⟨cd, hc, _⟩ := PySem.W.any_some hd
    unfold PySem.W.kitCls
    simp only [hc, ht, Option.isSome_some, Bool.true_and, beq_self_eq_true, if_true]
    exact hs
theorem kit_val {K : PySem.W.Frag} {D : Addr} (hs : PySem.W.subIn K (.ref D) (.type "ValueError") = some true) : PySem.W.kitOne K (.ref D) (.type "ValueError") = some true := by
  have hm : PySem.W.kitMeta "ValueError" = true := by decide +kernel
  unfold PySem.W.kitOne
  rw [if_neg (by simp)]
  unfold PySem.W.kitCls
  simp only [hm, if_true]
  exact hs
/-- what the written part says of the exception class D, the j-th of Cs -/
structure ErrK (K : PySem.W.Frag) (Cs : List Addr) (R : Addr) (D : Addr) (j : Nat) : Prop where
  x : ExcC K D
  k : ∀ (i : Nat) C, Cs[i]? = some C → PySem.W.kitOne K (.ref D) (.ref C) = some (decide (i = j))
  r : PySem.W.kitOne K (.ref D) (.ref R) = some true
  v : PySem.W.kitOne K (.ref D) (.type "ValueError") = some true
  m : PySem.W.exmOne K (.ref D) (.ref R) = some true
/-- a slot that holds a kept exception -/
def ExR (a C : Addr) : Res := ⟨fun v _ h => v = .ref a ∧ h = one a (ExO a C), fun _ _ _ _ _ x => x⟩
/-- what _law_error promises -/
def sp_err (Es : List (Addr × Str)) : Sp := fun vs H Q _ => ∃ a D x, vs = [.ref a] ∧ H a = some (ExO a D) ∧ (D, x) ∈ Es ∧ ∀ H', Same H H' → Q (.str x) H'
section
variable {E : XK} {ρ : Rho} {P Pb : Out → Prop} {tb tb1 tb2 : WX → TS} {ta ta1 ta2 : TA} {d : PyData} {ds : List PyData} {rel rel1 rel2 : List PyData → Rs → Prop} {i c f : Nat} {K : PySem.W.Frag} {R : Addr} {u : TS} {tt : TT}
/-- a try's body: one statement; what it raises comes ahead of each store -/
def TB (tb : WX → TS) (ρ : Rho) (P : Out → Prop) : Prop := ∀ Pv G0 H0 G H σ D (Z : WX), Sta Pv G0 H0 G H σ ρ → Kn (fun _ _ _ => True) P Pv G0 H0 G D → (∀ C H', P (.exc C) → Same H H' → Z (.ref C) none σ H') → tb Z D σ H
theorem tb_asg {r : Rs} (h : EA ta ρ ds) (hr : rel ds r) (h1 : ∀ d, r = .ok d → P (.nxt (ρ.set f (.dat d)))) (h2 : ∀ ds, r = .nw ds → P (.nxt (ρ.set f (.own ds)))) (h3 : ∀ C, r = .er C → P (.exc C)) :
    TB (fun Z => tAsg (tCallS (PrS rel) (WE Z) ta) (gName f)) ρ P := fun Pv G0 H0 G H σ D Z s k x =>
  h G H σ s.vw _ fun vs G1 H1 x1 hd => ⟨G1, ds, r, x1.e, hd, hr, by
    have s1 := s.grow x1
    cases r with
    | ok d => exact fun v G' H' y hv => k.nx _ _ G' H' (h1 d rfl) (x1.g.trans y.g) ((s1.grow y).set hv)
    | nw es => exact fun p xs G' H' y a b c e => k.nx _ _ G' H' (h2 es rfl) (x1.g.trans y.g) (s1.setOwn y a b c e)
    | er C => exact fun H' y => x C H' (h3 C rfl) (x1.h.trans y)⟩
theorem tb_drop {r : Rs} (h : EA ta ρ ds) (hr : rel ds r) (h1 : ∀ d, r = .ok d → P (.nxt ρ)) (h2 : ∀ ds, r = .nw ds → P (.nxt ρ)) (h3 : ∀ C, r = .er C → P (.exc C)) :
    TB (fun Z => tDrop (tCallS (PrS rel) (WE Z) ta)) ρ P := fun Pv G0 H0 G H σ D Z s k x =>
  h G H σ s.vw _ fun vs G1 H1 x1 hd => ⟨G1, ds, r, x1.e, hd, hr, by
    have s1 := s.grow x1
    cases r with
    | ok d => exact fun v G' H' y hv => k.nx _ _ G' H' (h1 d rfl) (x1.g.trans y.g) (s1.grow y)
    | nw es => exact fun p xs G' H' y a b c e => k.nx _ _ G' H' (h2 es rfl) (x1.g.trans y.g) (s1.grow y)
    | er C => exact fun H' y => x C H' (h3 C rfl) (x1.h.trans y)⟩
theorem tb_if {b : Bool} (h : ET tt (fz ρ) b) (h1 : b = true → TB tb1 ρ P) (h2 : b = false → TB tb2 ρ P) : TB (fun Z => tIfS tt (tb1 Z) (tb2 Z)) ρ P := fun Pv G0 H0 G H σ D Z s k x =>
  h H H σ s.fz _ fun H' y => by
    cases b with
    | true => exact iteT (h1 rfl Pv G0 H0 G H' σ D Z (s.more y) k fun C H2 p z => x C H2 p (y.trans z))
    | false => exact iteF (h2 rfl Pv G0 H0 G H' σ D Z (s.more y) k fun C H2 p z => x C H2 p (y.trans z))
theorem tb_asgIf {te1 te2 : WX → TE} {b : Bool} (h : ET tt (fz ρ) b) (h1 : b = true → TB (fun Z => tAsg (te1 Z) (gName f)) ρ P) (h2 : b = false → TB (fun Z => tAsg (te2 Z) (gName f)) ρ P) :
    TB (fun Z => tAsg (tIf tt (te1 Z) (te2 Z)) (gName f)) ρ P := fun Pv G0 H0 G H σ D Z s k x =>
  h H H σ s.fz _ fun H' y => by
    cases b with
    | true => exact iteT (h1 rfl Pv G0 H0 G H' σ D Z (s.more y) k fun C H2 p z => x C H2 p (y.trans z))
    | false => exact iteF (h2 rfl Pv G0 H0 G H' σ D Z (s.more y) k fun C H2 p z => x C H2 p (y.trans z))
/-- try: .. except R as e: caught = e -/
theorem so_try (h : TB tb ρ Pb) (hl : i < ρ.length) (hne : i ≠ c) (hn : ∀ o, (∀ C, o ≠ .exc C) → Pb o → P o) (hx : ∀ C, Pb (.exc C) → PySem.W.exmOne K (.ref C) (.ref R) = some true ∧ ∀ a, P (.nxt ((ρ.set c (.prv (ExR a C))).set i .un))) :
    SO E (fun D σ H => tb (wKeep K (.ref R) i (fun _ => tAsg (tVar i) (gName c)) D) D σ H) ρ P := fun Pv G0 H0 G H σ D s k => by
  refine h Pv G0 H0 G H σ D _ s ⟨fun ρ' σ' G' H' p => k.nx ρ' σ' G' H' (hn _ (fun _ z => by cases z) p), fun ρ' σ' G' H' p => k.bk ρ' σ' G' H' (hn _ (fun _ z => by cases z) p), fun ρ' σ' G' H' p => k.ct ρ' σ' G' H' (hn _ (fun _ z => by cases z) p),
    fun ρ' σ' d v G' H' p => k.rt ρ' σ' d v G' H' (hn _ (fun _ z => by cases z) p), fun ρ' σ' es q xs G' H' p => k.nw ρ' σ' es q xs G' H' (hn _ (fun _ z => by cases z) p), fun _ _ _ _ _ => trivial⟩ fun C H' p e => ?_
  obtain ⟨hm, hp⟩ := hx C p
  refine ⟨C, rfl, rfl, hm, fun a ha => ⟨.ref a, ?_, fun ha2 => ?_⟩⟩
  · exact List.getElem?_set_self (by rw [s.vw.ln]; exact hl)
  · have s1 := s.more e
    have h0 : H0 a = none := by
      cases q : H0 a with
      | none => rfl
      | some o => exact absurd ha (s1.fm.k a (by rw [q]; exact Option.some_ne_none _))
    have s2 : Sta Pv G0 H0 G (upd H' a (ExO a C)) σ ρ := s1.more (same_new ha)
    obtain ⟨fm2, vw2, hs2, p2⟩ := s1
    have p3 := p2.grow (Gr.flat fm2.e (same_new (o := ExO a C) ha))
    have gN : G a = none := fm2.e.free ha
    have s3 : Sta Pv G0 H0 G (upd H' a (ExO a C)) (σ.set c (some (.ref a))) (ρ.set c (.prv (ExR a C))) := by
      refine Sta.put (h := one a (ExO a C)) s2.fm s2.vw p3 (fun d z => by cases z) (fun es z => by cases z) (fun R z => by cases z; exact ⟨rfl, rfl⟩) (fun b o z => ?_) (fun j b hj z => ?_)
      · obtain ⟨rfl, rfl⟩ := one_some z
        exact ⟨upd_same, gN, .inr h0⟩
      · have zb := one_ne z
        subst zb
        cases q : hs2 j b with
        | none => rfl
        | some o => exact absurd (p2.hi j b o q).1 (by rw [ha]; exact (Option.some_ne_none _).symm)
    have s4 := s3.gone (i := i) (w := none)
    have e1 : (((σ.set i (some (V.ref a))).set c (some (V.ref a))).set i none) = (σ.set c (some (V.ref a))).set i none := by
      rw [List.set_comm _ _ (Ne.symm hne), List.set_set, List.set_comm _ _ hne]
    show D.nx _ _
    rw [e1]
    exact k.nx _ _ G _ (hp a) (.refl _) s4
theorem sq_try (h : TB tb ρ Pb) (hl : i < ρ.length) (hne : i ≠ c) (hn : ∀ o, (∀ C, o ≠ .exc C) → Pb o → After E u P o) (hx : ∀ C, Pb (.exc C) → PySem.W.exmOne K (.ref C) (.ref R) = some true ∧ ∀ a, SO E u ((ρ.set c (.prv (ExR a C))).set i .un) P) :
    SO E (tSeq (fun D σ H => tb (wKeep K (.ref R) i (fun _ => tAsg (tVar i) (gName c)) D) D σ H) u) ρ P := so_seq (so_try h hl hne hn hx)
/-- return t1 if caught is None else _law_error(caught), an exception kept -/
theorem so_retErr {t1 : TE} {E1 : XK} {Es : List (Addr × Str)} {a C : Addr} {x : Str} (q : ρ[c]? = some (Sl.prv (ExR a C))) (hm : (C, x) ∈ Es) (hp : P (.ret ρ (.str x))) :
    SO E (tRet (tIf (tTest (tOp rIsA (tVar c) (tC .non))) t1 (tCall (sp_err Es) [] E1 (tCons (tVar c) tNil)))) ρ P := fun Pv G0 H0 G H σ D s k => by
  obtain ⟨fm, vw, hs, p⟩ := id s
  obtain ⟨v, hv, rfl, hh⟩ := p.pv c _ q
  have ho : H a = some (ExO a C) := (p.hi c a _ (by rw [hh]; exact one_same)).1
  refine ⟨.ref a, hv, .inr ⟨rfl, false, by simp, iteF ⟨.ref a, hv, a, C, x, rfl, ho, hm, fun H' e => ?_⟩⟩⟩
  exact k.rt _ _ (.str x) _ G H' hp (.refl _) (s.more e) (.str x)
end
end Dl

namespace Dl
open PySem PySem.Spec L2 Rf
/-- a statement that is never reached -/
theorem pss_dead {X : Cx} {b : List Stmt} : PSs X b (fun _ _ _ => False) := ⟨fun _ _ _ _ _ _ h => h.elim⟩
theorem ps_dead {X : Cx} {b : Stmt} : PS X b (fun _ _ _ => False) := ⟨fun _ _ _ _ _ _ h => h.elim⟩
section
variable {E : XK} {ρ : Rho} {P : Out → Prop} {t u : TS} {te ta tb tl : TE} {tt : TT} {d : PyData} {ds : List PyData} {i j : Nat} {K : PySem.W.Frag} {vs : List Nat}
/-- over a tuple of pairs of ints -/
theorem en_lcTP {i j : Nat} {xs : List (Int × Int)} {f : Int × Int → Bool} {e : Int × Int → PyData} (hi : ED tl ρ (.tuple (xs.map cy))) (hl : xs.length < 16777216) (hv : vs = [i, j])
    (ht : ∀ x, x ∈ xs → ET tt (((wipeR ρ [i, j]).set i (.dat (.int x.1))).set j (.dat (.int x.2))) (f x)) (he : ∀ x, x ∈ xs → f x = true → ED te (((wipeR ρ [i, j]).set i (.dat (.int x.1))).set j (.dat (.int x.2))) (e x)) :
    EN (tLc (iTup K tl) (gTup K 2 (gCons (gName i) (gCons (gName j) gNil))) tt te vs) ρ ((xs.filter f).map e) := by
  subst hv
  exact en_lc (ei_tup hi) (ks := [i, j]) (fun _ h => h) (size_lt hl) fun x hx => ⟨_, tv_pair, ht x hx, he x hx⟩
/-- if c: return .. , taken -/
theorem sq_yes (h : ET tt (fz ρ) true) (k : SO E t ρ P) (hn : ∀ r, ¬ P (.nxt r)) : SO E (tSeq (tIfS tt t tNext) u) ρ P :=
  so_seq (so_if h (fun _ => k.imp fun o ho => by cases o <;> first | exact ho | exact absurd ho (hn _)) (fun z => Bool.noConfusion z))
theorem so_retIfX {b : Bool} {ta1 ta2 : TA} {ds1 ds2 : List PyData} {rel1 rel2 : List PyData → Rs → Prop} {r : Rs} (h : ET tt (fz ρ) b) (h1 : b = true → EA ta1 ρ ds1 ∧ rel1 ds1 r) (h2 : b = false → EA ta2 ρ ds2 ∧ rel2 ds2 r)
    (k1 : ∀ d, r = .ok d → P (.ret ρ d)) (k2 : ∀ ds, r = .nw ds → P (.new ρ ds)) (k3 : ∀ C, r = .er C → P (.exc C)) :
    SO E (tRet (tIf tt (tCallS (PrS rel1) (WE fun cls d _ H => E cls d H) ta1) (tCallS (PrS rel2) (WE fun cls d _ H => E cls d H) ta2))) ρ P := fun Pv G0 H0 G H σ D s k =>
  h H H σ s.fz _ fun H' y => by
    cases b with
    | true => exact iteT (so_retX (h1 rfl).1 (h1 rfl).2 k1 k2 k3 Pv G0 H0 G H' σ D (s.more y) k)
    | false => exact iteF (so_retX (h2 rfl).1 (h2 rfl).2 k1 k2 k3 Pv G0 H0 G H' σ D (s.more y) k)
end
theorem rd_rep {K : PySem.W.Frag} {ds : List PyData} {j : Int} (h1 : 0 ≤ j) (h2 : j ≤ 1000) (hl : ds.length ≤ 1000) : RD rMulA (.list ds) (.int j) (.list (List.replicate j.toNat ds).flatten) := (rn_rep h1 (by
  have : ds.length * j.toNat ≤ 1000 * 1000 := Nat.mul_le_mul hl (by omega)
  omega) (by omega)).rd
/-! cycles as any data -/
def ltD : List PyData → Bool
  | [.int a, .int b] => decide (a < b)
  | _ => false
def isCyD : PyData → Bool
  | .tuple ds => decide (ds.length = 2) && (ds.all (isIntD (-99) 99) && ltD ds)
  | _ => false
def toCy : PyData → Int × Int
  | .tuple [.int a, .int b] => (a, b)
  | _ => (0, 0)
def areCyD : PyData → Bool
  | .list ds => decide (ds.length ≤ 10) && (ds.all isCyD && decide (srtC (ds.map toCy) = ds.map toCy))
  | _ => false
def CyOk (cs : List (Int × Int)) : Prop := cs.length ≤ 10 ∧ (∀ p ∈ cs, -99 ≤ p.1 ∧ p.1 < p.2 ∧ p.2 ≤ 99) ∧ srtC cs = cs
theorem isIntD_some {lo hi : Int} {d : PyData} (h : isIntD lo hi d = true) : ∃ x, d = .int x ∧ lo ≤ x ∧ x ≤ hi := by
  cases d with
  | int x => exact ⟨x, rfl, by simpa [isIntD] using h⟩
  | _ => cases h
theorem isCyD_some {d : PyData} (h : isCyD d = true) : ∃ p : Int × Int, d = cy p ∧ -99 ≤ p.1 ∧ p.1 < p.2 ∧ p.2 ≤ 99 := by
  cases d with
  | tuple ds =>
    simp only [isCyD, Bool.and_eq_true, decide_eq_true_eq, List.all_eq_true] at h
    obtain ⟨h1, h2, h3⟩ := h
    match ds, h1, h2, h3 with
    | [x, y], _, h2, h3 =>
      obtain ⟨a, rfl, a1, a2⟩ := isIntD_some (h2 x (by simp))
      obtain ⟨b, rfl, b1, b2⟩ := isIntD_some (h2 y (by simp))
      exact ⟨(a, b), rfl, a1, by simpa [ltD] using h3, b2⟩
  | _ => cases h
theorem isCyD_cy {p : Int × Int} (h1 : -99 ≤ p.1) (h2 : p.1 < p.2) (h3 : p.2 ≤ 99) : isCyD (cy p) = true := by
  unfold cy
  simp only [isCyD, Bool.and_eq_true, decide_eq_true_eq, List.all_eq_true]
  refine ⟨rfl, fun x hx => ?_, by simpa [ltD] using h2⟩
  simp only [List.mem_cons, List.not_mem_nil, or_false] at hx
  rcases hx with rfl | rfl
  · simp [isIntD]; omega
  · simp [isIntD]; omega
theorem toCy_cy (p : Int × Int) : toCy (cy p) = p := rfl
theorem map_toCy (cs : List (Int × Int)) : (cs.map cy).map toCy = cs := by
  rw [List.map_map]
  exact (List.map_congr_left fun p _ => toCy_cy p).trans (List.map_id _)
theorem allCy : ∀ {ds : List PyData}, ds.all isCyD = true → ∃ cs : List (Int × Int), ds = cs.map cy ∧ ∀ p ∈ cs, -99 ≤ p.1 ∧ p.1 < p.2 ∧ p.2 ≤ 99
  | [], _ => ⟨[], rfl, fun _ h => by cases h⟩
  | d :: ds, h => by
    rw [List.all_cons, Bool.and_eq_true] at h
    obtain ⟨p, rfl, hp⟩ := isCyD_some h.1
    obtain ⟨cs, rfl, hc⟩ := allCy h.2
    exact ⟨p :: cs, rfl, fun q hq => by rcases List.mem_cons.mp hq with rfl | hq; exact hp; exact hc q hq⟩
theorem areCyD_some {d : PyData} (h : areCyD d = true) : ∃ cs, d = dC cs ∧ CyOk cs := by
  cases d with
  | list ds =>
    simp only [areCyD, Bool.and_eq_true, decide_eq_true_eq] at h
    obtain ⟨h1, h2, h3⟩ := h
    obtain ⟨cs, rfl, hc⟩ := allCy h2
    rw [map_toCy] at h3
    exact ⟨cs, rfl, by simpa using h1, hc, h3⟩
  | _ => cases h
theorem areCyD_dC {cs : List (Int × Int)} (h : CyOk cs) : areCyD (dC cs) = true := by
  simp only [areCyD, Bool.and_eq_true, decide_eq_true_eq, map_toCy]
  exact ⟨by simpa using h.1, List.all_eq_true.mpr fun d hd => by obtain ⟨p, hp, rfl⟩ := List.mem_map.mp hd; exact isCyD_cy (h.2.1 p hp).1 (h.2.1 p hp).2.1 (h.2.1 p hp).2.2, h.2.2⟩
end Dl

namespace Dl
open PySem PySem.Spec L2 Rf PyProof.Rows
/-! xs.remove(y) -/
section
variable {X : Cx}
def rRemD (K : PySem.W.Frag) : V → List V → Hp → VK → Prop := fun x xs H Q => ∃ (a : Addr) (y : V) (d : PyData) (vs : List V) (ds : List PyData) (j : Nat) (z : PyData), x = V.ref a ∧ xs = [y] ∧ H a = some (.lst vs) ∧ DpAll K H vs ds ∧ Dp K H y d ∧
  SeqAt.shaped (.list ds) = true ∧ SeqAt.shaped d = true ∧ ds[j]? = some z ∧ PyData.eqv z d = true ∧ (∀ (m : Nat) (z' : PyData), m < j → ds[m]? = some z' → PyData.eqv z' d = false) ∧ Q .non (upd H a (.lst (vs.eraseIdx j)))
theorem vals_erase : ∀ {xs : List V} {us : List Value} (j : Nat), Vals xs us → Vals (xs.eraseIdx j) (us.eraseIdx j)
  | _, _, _, .nil => .nil
  | _, _, 0, .cons _ t => t
  | _, _, j + 1, .cons q t => .cons q (vals_erase j t)
theorem mt_removeD (hu : X.A.units + 65 < cLine) : MtR X "list.remove" (rRemD X.K) := by
  intro pins s σ H x xs v us Q I rx rxs h
  obtain ⟨a, y, d, vs, ds, j, z, rfl, rfl, hH, hl, hy, sl, sd, hz, hzj, hno, q⟩ := h
  cases rx
  cases rxs with
  | cons ry rt =>
    rename_i uy ut
    cases rt
    obtain ⟨bs, r1⟩ := Dp.reads I d y uy hy ry
    have lay := SeqAt.canLay_of_shaped sl
    have room := room_in_shaped (xs := ds) sd hu
    obtain ⟨size, its, n, rv, elen, ho⟩ := I.lstM hH
    obtain ⟨as, h4⟩ := Dp.readsAll I ds _ its hl rv
    have same := SeqAt.readsAll_map ds its as lay h4
    have many : its.length = ds.length := SeqAt.ReadsAll.length ds its as h4
    have hjd := (List.getElem?_eq_some_iff.mp hz).1
    have hji : j < its.toArray.size := by rw [List.size_toArray]; omega
    have val : ∀ (m : Nat) (hm : m < its.toArray.size) (z' : PyData), ds[m]? = some z' → SeqAt.readOf s.heap its.toArray[m] = z' := fun m hm z' e => by
      have hm' : m < its.length := by simpa using hm
      rw [← same, List.getElem?_map, List.getElem?_eq_getElem hm'] at e
      have e2 : SeqAt.readOf s.heap its[m] = z' := by simpa using e
      simpa using e2
    refine call_meets PySem.F.slot_list_remove ⟨_, ho, rfl⟩ PySem.F.entry_list_remove (PySem.F.args_list_remove_2 _ _)
      (SeqAt.list_removeAt a its.toArray n none #[] uy (fun u => PyData.eqv (SeqAt.readOf s.heap u) d) j hji ?hit ?miss (by rw [List.size_toArray, ← elen]; exact size)) ⟨ho, SeqAt.items_eqAt (vs := its.toArray) (show ReadsAll s.heap its.toArray.toList ds as from h4) r1 lay (SeqAt.canLay_of_shaped sd) room, ?_⟩
    case hit =>
      show PyData.eqv (SeqAt.readOf s.heap its.toArray[j]) d = true
      rw [val j hji z hz]; exact hzj
    case miss =>
      intro m hm hmj
      show PyData.eqv (SeqAt.readOf s.heap its.toArray[m]) d = false
      have hmd : m < ds.length := by omega
      rw [val m hm _ (List.getElem?_eq_getElem hmd)]
      exact hno m _ hmj (List.getElem?_eq_getElem hmd)
    refine ⟨.non, _, I.lset (its' := its.eraseIdx j) hH ho ?_ (vals_erase j rv) ?_, rfl, q⟩
    · show its.toArray.eraseIdxIfInBounds j = _
      rw [List.eraseIdxIfInBounds_toArray]
    · exact Nat.le_trans (List.length_eraseIdx_le _ _) size
theorem mt_removeK {K : PySem.W.Frag} (h : X.K = K) (hu : X.A.units + 65 < cLine) : MtR X "list.remove" (rRemD K) := h ▸ mt_removeD hu
end
section
variable {E : XK} {ρ : Rho} {P : Out → Prop} {t u : TS} {te : TE} {i : Nat} {K : PySem.W.Frag}
theorem Dvs.erase : ∀ {H : Hp} {vs : List V} {ds : List PyData} (j : Nat), Dvs H vs ds → Dvs H (vs.eraseIdx j) (ds.eraseIdx j)
  | _, _, _, _, .nil => .nil
  | _, _, _, 0, .cons _ t => t
  | _, _, _, j + 1, .cons q t => .cons q (Dvs.erase j t)
theorem map_erase {α : Type} [DecidableEq α] (f : α → PyData) : ∀ (xs : List α) (y : α), y ∈ xs → ∃ j, xs[j]? = some y ∧ (∀ (m : Nat) z, m < j → xs[m]? = some z → z ≠ y) ∧ (xs.map f).eraseIdx j = (xs.erase y).map f
  | x :: xs, y, h => by
    by_cases e : x = y
    · subst e
      exact ⟨0, rfl, fun m z hm _ => absurd hm (Nat.not_lt_zero _), by simp⟩
    · have hm : y ∈ xs := by
        rcases List.mem_cons.mp h with z | z
        · exact absurd z.symm e
        · exact z
      obtain ⟨j, h1, h2, h3⟩ := map_erase f xs y hm
      refine ⟨j + 1, by simpa using h1, fun m z hmj hz => ?_, ?_⟩
      · cases m with
        | zero => simp at hz; subst hz; exact e
        | succ m => exact h2 m z (by omega) (by simpa using hz)
      · rw [List.map_cons, List.eraseIdx_cons_succ, h3, List.erase_cons_tail (by simpa using e), List.map_cons]
/-- xs.remove(e), xs owned -/
theorem so_rem {α : Type} [DecidableEq α] {f : α → PyData} {xs : List α} {y : α} {n : Nat} (hf : ∀ x y, PyData.eqv (f x) (f y) = decide (x = y)) (hpl : ∀ x, Pl n (f x)) (q : ρ[i]? = some (Sl.own (xs.map f))) (h : ED te ρ (f y)) (hy : y ∈ xs)
    (hp : P (.nxt (ρ.set i (.own ((xs.erase y).map f))))) (hn : n + 1 ≤ 64 := by decide) : SO E (tDrop (tBM K "list" (rRemD K) (tVar i) (tCons te tNil))) ρ P := fun Pv G0 H0 G H σ D s k => by
  obtain ⟨o, vs, a1, a2, a3, a4, a5, _⟩ := s.mut (ds' := xs.map f) q
  refine ⟨_, a1, .inl ⟨rfl, _, SqL.of a2⟩, h G H σ s.vw _ fun v G' H' x hv => ?_⟩
  have s1 := s.grow x
  obtain ⟨o', vs', b1, b2, b3, b4, b5, b6⟩ := s1.mut (ds' := (xs.erase y).map f) q
  rw [a1] at b1; cases b1
  obtain ⟨j, j1, j2, j3⟩ := map_erase f xs y hy
  refine ⟨o, v, f y, vs', xs.map f, j, f y, rfl, rfl, b2, dvs_dp _ _ (b3.up x.e), (hv.up x.e).dp, (pl_map hpl xs).shaped hn, (hpl y).shaped (by omega), by rw [List.getElem?_map, j1]; rfl, by rw [hf]; simp, fun m z' hm hz => ?_, ?_⟩
  · rw [List.getElem?_map] at hz
    cases e : xs[m]? with
    | none => rw [e] at hz; cases hz
    | some w =>
      rw [e] at hz; cases hz
      rw [hf]
      exact decide_eq_false (j2 m w hm e)
  · exact k.nx _ _ G' _ hp x.g (b6 _ (by rw [← j3]; exact b3.erase j))
/-- over a list of ((a, b), n) -/
theorem ed_lcTE {i j : Nat} {vs : List Nat} {tl : TE} {tt : TT} {xs : List ((Int × Int) × Int)} {f : (Int × Int) × Int → Bool} {e : (Int × Int) × Int → PyData} (hi : ED tl ρ (.list (xs.map tE))) (hl : xs.length < 16777216) (hv : vs = [i, j])
    (ht : ∀ x, x ∈ xs → ET tt (((wipeR ρ [i, j]).set i (.dat (cy x.1))).set j (.dat (.int x.2))) (f x)) (he : ∀ x, x ∈ xs → f x = true → ED te (((wipeR ρ [i, j]).set i (.dat (cy x.1))).set j (.dat (.int x.2))) (e x)) :
    ED (tLc (iList K tl) (gTup K 2 (gCons (gName i) (gCons (gName j) gNil))) tt te vs) ρ (.list ((xs.filter f).map e)) := by
  subst hv
  exact (en_lc (ei_list hi) (ks := [i, j]) (fun _ h => h) (size_lt hl) fun x hx => ⟨_, tv_pair, ht x hx, he x hx⟩).ed
/-! a block, and its end by itself -/
theorem seq3 {a b c d : TS} {D : Ends} {σ : L2.St} {H : Hp} (h : tSeq (tSeq a (tSeq b c)) d D σ H) : tSeq a (tSeq b (tSeq c d)) D σ H := h
theorem so_pre {Pv : Addr → Prop} {G0 H0 G H : Hp} {σ : L2.St} {D : Ends} (h : SO E t ρ P) (s : Sta Pv G0 H0 G H σ ρ) (hn : ∀ o, P o → ∃ ρ', o = .nxt ρ') (k : ∀ ρ' σ' G' H', P (.nxt ρ') → Same G G' → Sta Pv G0 H0 G' H' σ' ρ' → u D σ' H') : tSeq t u D σ H :=
  h Pv G0 H0 G H σ { D with nx := u D } s ⟨k, fun _ _ _ _ p => (by obtain ⟨_, z⟩ := hn _ p; cases z), fun _ _ _ _ p => (by obtain ⟨_, z⟩ := hn _ p; cases z), fun _ _ _ _ _ _ p => (by obtain ⟨_, z⟩ := hn _ p; cases z), fun _ _ _ _ _ _ _ p => (by obtain ⟨_, z⟩ := hn _ p; cases z), fun _ _ _ p => (by obtain ⟨_, z⟩ := hn _ p; cases z)⟩
/-- counted, its first list new -/
def sp_cntN : Sp := fun vs H Q _ => ∃ G l, Same G H ∧ Dvs G vs [dI l] ∧ (isT l ∧ l.length ≤ 100000) ∧ ∀ t p xs q G' H', Gr G H G' H' → H p = none → G' p = none → H' p = some (.lst xs) → Dvs G' xs ((cyc l).map cy) → H' t = some (.tup [.ref p, q]) → Dv G' q (dI (rst l)) → Q (.ref t) H'
theorem en_cnt0 {ta : TA} {l : List Int} {E1 : XK} (h : EA ta ρ [dI l]) (ht : isT l) (hl : l.length ≤ 100000) : EN (tOp (rIx K) (tCall sp_cntN [] E1 ta) (tC (.int 0))) ρ ((cyc l).map cy) := fun G H σ w Q q =>
  h G H σ w _ fun vs G1 H1 x1 hv => ⟨G1, l, x1.e, by rw [List.append_nil]; exact hv, ⟨ht, hl⟩, fun t p xs z G' H' x hp hg hh hd htp hz =>
    .inr (.inl ⟨t, _, 0, .ref p, rfl, rfl, SqT.of htp, rfl, q p xs G' H' (x1.trans x) (x1.h.free hp) hg hh hd⟩)⟩
end
end Dl

namespace Dl
open PySem PySem.Spec L2 Rf
/-! o.f as one of several targets -/
def gFld (K : PySem.W.Frag) (to : TE) (f : Str) : TG := fun v σ H Q => to σ H fun x H2 => ∃ a C dx fs, x = .ref a ∧ H2 a = some (.ins C dx fs) ∧ Cls K C ∧ NoAttr K C f ∧ fs.length < 1000 ∧ Q σ (upd H2 a (.ins C dx (putF f v fs)))
theorem pg_fld {X : Cx} {o : Expr} {f : Str} {pos : Pos} {to : TE} (ho : PE X o to) : PG X (.Attribute o f pos) (gFld X.K to f) := by
  constructor
  intro pins s σ H v u Q I r h
  rw [assign_Attribute]
  refine wpAny_bind (wpAny_holding (wpAny_mono (ho.run pins s σ H _ I h) (fun ov s1 hz => ?_) (fun _ _ z => z)))
  obtain ⟨x, H1, I1, rx, a, C, dx, fs, rfl, ea, c, n, l, q⟩ := hz
  obtain rfl : ov = Value.ref a := rx
  refine wpAny_bind (wpAny_standAt (wpAny_bind (wpAny_holding (setattr_ok I1 ea c n l r fun s2 I2 => ?_))))
  first
    | exact wpAny_release ⟨_, _, I2, q⟩
    | exact wpAny_pure ⟨_, _, I2, q⟩
    | (unfold release; exact wpAny_pure ⟨_, _, I2, q⟩)
/-! len(x), x an instance whose class has a __len__ -/
def rLenO (C : Addr) (sp : Sp) (E : XK) : List V → Hp → VK → Prop := fun xs H Q => ∃ a dx fs, xs = [.ref a] ∧ H a = some (.ins C dx fs) ∧ sp [.ref a] H (fun v H' => ∃ n : Int, v = .int n ∧ 0 ≤ n ∧ n < 2 ^ 63 ∧ Q (.int n) H') E
theorem call_lenO {X : Cx} {C f : Addr} {fd : FuncData} {k : Nat} {sp : Sp} {E : XK} {CX : CXT} (hl : PySem.W.findIn X.K (.ref C) "__len__" = some (some (.ref f))) (hf : PySem.W.isFn X.K (.ref f) = true) (F : FnOk X.prog X.w X.K X.mg X.base CX k f fd ["self"] sp) (hr : Room (k + 1) X.A)
    (hb : Binds X.K fd ["self"] []) (hx : Passes CX X E) : CallR X (.builtin "len") (rLenO C sp E) := by
  intro pins s σ H xs us Q I r h
  obtain ⟨a, dx, fs, rfl, ha, h⟩ := h
  cases r with
  | cons r1 r2 =>
    cases r2
    cases r1
    obtain ⟨m, hn, _⟩ := id I.loc
    obtain ⟨mA, O, _⟩ := ins_get I.hok ha
    obtain ⟨od, J, _⟩ := O.look
    have Fr0 : PyProof.Rows.Fr X.base X.env.locals s.heap m := ⟨hn, I.bk, Nat.le_trans I.ok.bsz I.ok.above⟩
    refine PySem.W.len_K Fr0 I.ok.mod.kin J hl hf (wpAny_call (codeAny_mono (F.run X.A.in1 X.stack s H ⟨[.ref a], []⟩ [.ref a] [.ref a] _ E hr.in1 I.env0.in1 (hb s [.ref a] I.kIn rfl) (.cons rfl .nil) h) fun rr s' hq => ?_))
    cases rr with
    | error e => exact hx pins σ H s e s' I hq
    | ok fl =>
      cases fl with
      | ret u =>
        obtain ⟨v, H', I2, rv, n, rfl, h0, h1, q⟩ := I.after hq
        obtain ⟨t, rfl⟩ := (show ∃ t, u = Value.int n t from rv)
        exact ⟨⟨h0, h1⟩, .int n, H', I2.tok _, ⟨_, rfl⟩, q⟩
      | next => exact False.elim hq
      | brk => exact False.elim hq
      | cont => exact False.elim hq
/-! a resource that becomes another -/
section
variable {Pv : Addr → Prop} {G0 H0 G H : Hp} {σ : St} {ρ : Rho} {i : Nat} {R R' : Res}
theorem Sta.res (s : Sta Pv G0 H0 G H σ ρ) (q : ρ[i]? = some (Sl.prv R)) : ∃ v h, σ[i]? = some (some v) ∧ R.inv v G h ∧ Same h H ∧ (∀ a, h a ≠ none → G a = none) ∧
    ∀ G' H' h' R', Fm (fun a => h a ≠ none) G H G' H' → R'.inv v G' h' → (∀ a, h' a ≠ none → h a ≠ none ∨ H a = none) → Same h' H' → (∀ a, h' a ≠ none → G' a = none) → Sta Pv G0 H0 G' H' σ (ρ.set i (.prv R')) := by
  obtain ⟨fm, vw, hs, p⟩ := s
  obtain ⟨v, hv, hI⟩ := p.pv i _ q
  have inH : ∀ (j : Nat) a, hs j a ≠ none → H a ≠ none := fun j a z => by
    cases e : hs j a with
    | none => exact absurd e z
    | some o => rw [(p.hi j a o e).1]; exact Option.some_ne_none _
  have inG : ∀ (j : Nat) a, hs j a ≠ none → G a = none := fun j a z => by
    cases e : hs j a with
    | none => exact absurd e z
    | some o => exact (p.hi j a o e).2.1
  have inP : ∀ (j : Nat) a, hs j a ≠ none → Pv a ∨ H0 a = none := fun j a z => by
    cases e : hs j a with
    | none => exact absurd e z
    | some o => exact (p.hi j a o e).2.2
  have frH : ∀ a, H a = none → H0 a = none := fun a z => by
    cases e : H0 a with
    | none => rfl
    | some o => exact absurd z (fm.k a (by rw [e]; exact Option.some_ne_none _))
  refine ⟨v, hs i, hv, hI, fun a o z => (p.hi i a o z).1, inG i, fun G' H' h' R' m hI' hdom hsub hG => ?_⟩
  have fm' : Fm Pv G0 H0 G' H' := ⟨fm.g.trans m.g, fun a o np z => m.h a o (fun nz => (inP i a nz).elim np fun w => by rw [z] at w; cases w) (fm.h a o np z), fun a z => m.k a (fm.k a z), m.e, fun a z1 z2 => m.f a (fm.f a z1 z2) (fm.k a z2)⟩
  have vw' : Vw G' H' σ ρ := ⟨m.e, vw.ln, fun j d' z => let ⟨v1, a1, b1⟩ := vw.dt j d' z; ⟨v1, a1, b1.up m.g⟩⟩
  have lt : i < ρ.length := (List.getElem?_eq_some_iff.mp q).1
  have sv : σ.set i (some v) = σ := by
    apply List.ext_getElem?
    intro j
    by_cases hj : i = j
    · subst hj
      rw [List.getElem?_set_self (List.getElem?_eq_some_iff.mp hv).1, hv]
    · rw [List.getElem?_set_ne hj]
  have hs1 : Nat → Hp := fun j => if i = j then fun _ => none else hs j
  have pr : Pri Pv H0 G' H' σ (ρ.set i .un) (fun j => if i = j then fun _ => none else hs j) := by
    refine ⟨fun j ds z => ?_, fun j R2 z => ?_, fun j a o z => ?_, fun j k a hjk z => ?_⟩
    · rcases get_set_dat z with ⟨_, w⟩ | ⟨hj, z⟩
      · cases w
      · obtain ⟨o, xs, a1, b1, c1, d1⟩ := p.ow j ds z
        exact ⟨o, xs, a1, by show (if i = j then _ else _) = _; rw [if_neg hj]; exact b1, c1.up m.g, d1⟩
    · rcases get_set_dat z with ⟨_, w⟩ | ⟨hj, z⟩
      · cases w
      · obtain ⟨v1, a1, b1⟩ := p.pv j R2 z
        exact ⟨v1, a1, by show R2.inv v1 G' (if i = j then _ else _); rw [if_neg hj]; exact R2.mono _ _ _ _ m.g b1⟩
    · have z : (if i = j then (fun _ => none : Hp) else hs j) a = some o := z
      by_cases hj : i = j
      · rw [if_pos hj] at z; cases z
      · rw [if_neg hj] at z
        have hz : hs j a ≠ none := by rw [z]; exact Option.some_ne_none _
        exact ⟨m.h a o (fun nz => nz (p.dj j i a (Ne.symm hj) hz)) (p.hi j a o z).1, m.f a (inG j a hz) (inH j a hz), inP j a hz⟩
    · have z : (if i = j then (fun _ => none : Hp) else hs j) a ≠ none := z
      show (if i = k then (fun _ => none : Hp) else hs k) a = none
      by_cases hk : i = k
      · rw [if_pos hk]
      · rw [if_neg hk]
        by_cases hj : i = j
        · rw [if_pos hj] at z; exact absurd rfl z
        · rw [if_neg hj] at z; exact p.dj j k a hjk z
  have vu : Vw G' H' σ (ρ.set i .un) := ⟨vw'.e, by rw [List.length_set]; exact vw'.ln, fun j d z => by
    rcases get_set_dat z with ⟨_, w⟩ | ⟨hj, z⟩
    · cases w
    · exact vw'.dt j d z⟩
  have fin := Sta.put (i := i) (v := v) (z := .prv R') (h := h') fm' vu pr (fun d z => by cases z) (fun ds z => by cases z) (fun R2 z => by cases z; exact hI') (fun a o z => ?_) (fun j a hj z => ?_)
  · rw [sv, List.set_set] at fin
    exact fin
  · have hz : h' a ≠ none := by rw [z]; exact Option.some_ne_none _
    refine ⟨hsub a o z, hG a hz, ?_⟩
    rcases hdom a hz with w | w
    · exact inP i a w
    · exact .inr (frH a w)
  · show (if i = j then (fun _ => none : Hp) else hs j) a = none
    rw [if_neg hj]
    rcases hdom a z with w | w
    · exact p.dj i j a hj w
    · cases e : hs j a with
      | none => rfl
      | some o => exact absurd w (inH j a (by rw [e]; exact Option.some_ne_none _))
end
end Dl

namespace Dl
open PySem PySem.Spec L2 Rf
/-! a method that may raise -/
def tMethE (C : Addr) (m : Str) (sp : Sp) (E : St → XK) (ta : TE) (t : TA) : TE := fun σ H Q => ta σ H fun x H1 => ∃ a dx fs, x = .ref a ∧ H1 a = some (.ins C dx fs) ∧ fs.lookup m = none ∧ t σ H1 fun vs H2 => sp (x :: vs) H2 Q (E σ)
section
variable {X : Cx} {CX : CXT} {k : Nat} {f C : Addr} {fd : FuncData} {ps : List Str} {sp : Sp} {E : St → XK} {mm : Str} {pp pa : Pos} {ee oo : Expr} {ess : List Expr} {ta : TE} {t : TA}
theorem pe_methE {pl : Sem Bool} (ho : PE X oo ta) (c : Cls X.K C) (hm : Meth X.K C mm f) (F : FnOk X.prog X.w X.K X.mg X.base CX k f fd ps sp) (hr : Room k X.A) (hb : Binds X.K fd ps []) (hx : ∀ σ, PassesAt CX X σ (E σ)) (ha : PA X (ee :: ess) t)
    (h1 : starEach (ee :: ess) X.env = (false, eval ee X.env) :: starEach ess X.env := by rfl) (h2 : (backTo pp (starEach ess X.env)).any (·.1) = false := by rfl)
    (ht : eval (.Call (.Attribute oo mm pa) (ee :: ess) [] pp) X.env = (do let w ← eval oo X.env; standAt pa.atName; let (f, fi) ← holding [w] (getMethod w mm pl); callWith pp f fi (backTo pp (starEach (ee :: ess) X.env)) (backToKw pp (keywordEach [] X.env))) := by rfl) :
    PE X (.Call (.Attribute oo mm pa) (ee :: ess) [] pp) (tMethE C mm sp E ta t) := by
  constructor
  intro pins s σ H Q I h
  refine PySem.W.methodCall_KW (pl := pl) (thn (ho.run pins s σ H _ I h) fun u s1 hz => ?_) ht
  obtain ⟨x, H1, I1, rx, a, dx, fs, rfl, ea, l, q⟩ := hz
  obtain rfl : u = Value.ref a := rx
  refine getmeth_ok I1 ea c hm l (PySem.W.callWith_K (first := [.ref a]) (h₀ := X.base) I.ok.mod.kin hm.kp (thn (ha.run pp pins s1 σ H1 _ I1 q) fun us s2 hy => ?_) h1 h2)
  obtain ⟨vs, H2, I2, r, q2⟩ := hy
  exact ⟨I2.kIn, run_fnS (us := .ref a :: us) (vs := .ref a :: vs) F hr hb (hx σ) I2 (.cons rfl r) q2⟩
theorem pe_methE0 {pl : Sem Bool} (ho : PE X oo ta) (c : Cls X.K C) (hm : Meth X.K C mm f) (F : FnOk X.prog X.w X.K X.mg X.base CX k f fd ps sp) (hr : Room k X.A) (hb : Binds X.K fd ps []) (hx : ∀ σ, PassesAt CX X σ (E σ))
    (ht : eval (.Call (.Attribute oo mm pa) [] [] pp) X.env = (do let w ← eval oo X.env; standAt pa.atName; let (f, fi) ← holding [w] (getMethod w mm pl); callWith pp f fi (backTo pp (starEach [] X.env)) (backToKw pp (keywordEach [] X.env))) := by rfl) :
    PE X (.Call (.Attribute oo mm pa) [] [] pp) (tMethE C mm sp E ta tNil) := by
  constructor
  intro pins s σ H Q I h
  refine PySem.W.methodCall_KW (pl := pl) (thn (ho.run pins s σ H _ I h) fun u s1 hz => ?_) ht
  obtain ⟨x, H1, I1, rx, a, dx, fs, rfl, ea, l, q⟩ := hz
  obtain rfl : u = Value.ref a := rx
  exact getmeth_ok I1 ea c hm l (PySem.W.callWith_K0 (first := [.ref a]) I1.kIn hm.kp (run_fnS (us := [.ref a]) (vs := [.ref a]) F hr hb (hx σ) I1 (.cons rfl .nil) q))
end
/-! ### the meter -/
abbrev MS := List Int × List (Int × Int) × List (List Int × List (Int × Int))
def pD (e : List Int × List (Int × Int)) : PyData := .tuple [dI e.1, dC e.2]
def mfs (sv cv : V) (pl : Addr) : List (Str × V) := [("stack", sv), ("cycles", cv), ("past", .ref pl)]
theorem ne_sc : ¬ (("stack" : Str) = "cycles") := by decide +kernel
theorem ne_sp : ¬ (("stack" : Str) = "past") := by decide +kernel
theorem ne_cp : ¬ (("cycles" : Str) = "past") := by decide +kernel
theorem mfs_make (sv cv : V) (pl : Addr) : putF "past" (.ref pl) (putF "cycles" cv (putF "stack" sv [])) = mfs sv cv pl := by
  have e1 : putF "cycles" cv [(("stack" : Str), sv)] = [(("stack" : Str), sv), (("cycles" : Str), cv)] := by
    unfold putF
    rw [if_neg ne_sc]
    rfl
  show putF "past" (.ref pl) (putF "cycles" cv [("stack", sv)]) = _
  rw [e1]
  show (if ("stack" : Str) = "past" then _ else (("stack" : Str), sv) :: (if ("cycles" : Str) = "past" then _ else (("cycles" : Str), cv) :: putF "past" (.ref pl) [])) = _
  rw [if_neg ne_sp, if_neg ne_cp]
  rfl
theorem mfs_stack (sv cv y : V) (pl : Addr) : putF "stack" y (mfs sv cv pl) = mfs y cv pl := by
  unfold mfs putF
  rw [if_pos rfl]
theorem mfs_cycles (sv cv y : V) (pl : Addr) : putF "cycles" y (mfs sv cv pl) = mfs sv y pl := by
  unfold mfs
  unfold putF
  rw [if_neg ne_sc]
  unfold putF
  rw [if_pos rfl]
theorem look_ne {f g : Str} {v : V} {r : List (Str × V)} (h : ¬ g = f) : ((f, v) :: r).lookup g = r.lookup g := by
  rw [List.lookup_cons]
  have : (g == f) = false := by simpa using h
  rw [this]
theorem look_eq {f : Str} {v : V} {r : List (Str × V)} : ((f, v) :: r).lookup f = some v := by
  rw [List.lookup_cons]
  simp
theorem mfs_l1 (sv cv : V) (pl : Addr) : (mfs sv cv pl).lookup ("stack" : Str) = some sv := look_eq
theorem mfs_l2 (sv cv : V) (pl : Addr) : (mfs sv cv pl).lookup ("cycles" : Str) = some cv := (look_ne (fun z => ne_sc z.symm)).trans look_eq
theorem mfs_l3 (sv cv : V) (pl : Addr) : (mfs sv cv pl).lookup ("past" : Str) = some (.ref pl) := (look_ne (fun z => ne_sp z.symm)).trans ((look_ne (fun z => ne_cp z.symm)).trans look_eq)
theorem mfs_no {m : Str} (sv cv : V) (pl : Addr) (h1 : ¬ m = "stack") (h2 : ¬ m = "cycles") (h3 : ¬ m = "past") : (mfs sv cv pl).lookup m = none := (look_ne h1).trans ((look_ne h2).trans ((look_ne h3).trans rfl))
/-- what the classes' text must say -/
structure MT (K : PySem.W.Frag) (C : Addr) : Prop where
  cl : Cls K C
  n1 : NoAttr K C "stack"
  n2 : NoAttr K C "cycles"
  n3 : NoAttr K C "past"
/-- the meter at x, its past at pl, in state M -/
def MeterR (C x pl : Addr) (M : MS) : Res := ⟨fun v G h => v = .ref x ∧ ∃ dx sv cv pvs, x ≠ pl ∧ dx ≠ x ∧ dx ≠ pl ∧ h = upd (upd (one x (.ins C dx (mfs sv cv pl))) dx (.own x)) pl (.lst pvs) ∧ Dv G sv (dI M.1) ∧ Dv G cv (dC M.2.1) ∧ Dvs G pvs (M.2.2.map pD),
  fun v G G' h e ⟨h1, dx, sv, cv, pvs, a, b, c, d, e1, e2, e3⟩ => ⟨h1, dx, sv, cv, pvs, a, b, c, d, e1.up e, e2.up e, e3.up e⟩⟩
/-- .. as it is read -/
def MeterAt (C : Addr) (H : Hp) (x : Addr) (M : MS) : Prop := ∃ dx sv cv pl pvs, H x = some (.ins C dx (mfs sv cv pl)) ∧ H pl = some (.lst pvs) ∧ Dv H sv (dI M.1) ∧ Dv H cv (dC M.2.1) ∧ Dvs H pvs (M.2.2.map pD)
section
variable {C x pl : Addr} {M : MS} {Pv : Addr → Prop} {G0 H0 G H : Hp} {σ : St} {ρ : Rho} {i : Nat}
theorem Sta.meter (s : Sta Pv G0 H0 G H σ ρ) (q : ρ[i]? = some (Sl.prv (MeterR C x pl M))) : σ[i]? = some (some (.ref x)) ∧ ∃ dx sv cv pvs, H x = some (.ins C dx (mfs sv cv pl)) ∧ H pl = some (.lst pvs) ∧ x ≠ pl ∧ G x = none ∧ G pl = none ∧ Dv G sv (dI M.1) ∧ Dv G cv (dC M.2.1) ∧ Dvs G pvs (M.2.2.map pD) ∧
    ∀ H' sv' cv' pvs' M', (∀ a, a ≠ x → a ≠ pl → H' a = H a) → H' x = some (.ins C dx (mfs sv' cv' pl)) → H' pl = some (.lst pvs') → Dv G sv' (dI M'.1) → Dv G cv' (dC M'.2.1) → Dvs G pvs' (M'.2.2.map pD) → Sta Pv G0 H0 G H' σ (ρ.set i (.prv (MeterR C x pl M'))) := by
  obtain ⟨v, h, hv, ⟨rfl, dx, sv, cv, pvs, n1, n2, n3, rfl, d1, d2, d3⟩, sub, inG, fin⟩ := s.res q
  have hx : (upd (upd (one x (.ins C dx (mfs sv cv pl))) dx (.own x)) pl (.lst pvs)) x = some (.ins C dx (mfs sv cv pl)) := by rw [upd_ne n1, upd_ne n2.symm]; exact one_same
  have hp : (upd (upd (one x (.ins C dx (mfs sv cv pl))) dx (.own x)) pl (.lst pvs)) pl = some (.lst pvs) := upd_same
  have hd : (upd (upd (one x (.ins C dx (mfs sv cv pl))) dx (.own x)) pl (.lst pvs)) dx = some (.own x) := by rw [upd_ne n3, upd_same]
  have gx := inG x (by rw [hx]; exact Option.some_ne_none _)
  have gp := inG pl (by rw [hp]; exact Option.some_ne_none _)
  refine ⟨hv, dx, sv, cv, pvs, sub _ _ hx, sub _ _ hp, n1, gx, gp, d1, d2, d3, fun H' sv' cv' pvs' M' off kx kp e1 e2 e3 => ?_⟩
  have dom : ∀ {sv cv : V} {pvs : List V} {a : Addr}, (upd (upd (one x (.ins C dx (mfs sv cv pl))) dx (.own x)) pl (.lst pvs)) a ≠ none → a = x ∨ a = dx ∨ a = pl := fun {sv cv pvs a} z => by
    by_cases h1 : a = pl
    · exact .inr (.inr h1)
    · rw [upd_ne h1] at z
      by_cases h2 : a = dx
      · exact .inr (.inl h2)
      · rw [upd_ne h2] at z
        exact .inl (one_ne z)
  have mem : ∀ {a : Addr}, a = x ∨ a = dx ∨ a = pl → (upd (upd (one x (.ins C dx (mfs sv cv pl))) dx (.own x)) pl (.lst pvs)) a ≠ none := fun {a} z => by
    rcases z with rfl | rfl | rfl
    · rw [hx]; exact Option.some_ne_none _
    · rw [hd]; exact Option.some_ne_none _
    · rw [hp]; exact Option.some_ne_none _
  have sd : H dx = some (.own x) := sub _ _ hd
  have nx : ∀ {a : Addr} {o : HO}, G a = some o → a ≠ x ∧ a ≠ pl := fun {a o} e => ⟨fun z => (by rw [z, gx] at e; cases e), fun z => (by rw [z, gp] at e; cases e)⟩
  refine fin G H' (upd (upd (one x (.ins C dx (mfs sv' cv' pl))) dx (.own x)) pl (.lst pvs')) (MeterR C x pl M') ⟨.refl _, fun a o np e => ?_, fun a e => ?_, fun a o e => ?_, fun _ z _ => z⟩ ⟨rfl, dx, sv', cv', pvs', n1, n2, n3, rfl, e1, e2, e3⟩ (fun a z => .inl (mem (dom z))) (fun a o z => ?_) (fun a z => inG a (mem (dom z)))
  · rw [off a (fun z => np (mem (.inl z))) (fun z => np (mem (.inr (.inr z))))]; exact e
  · by_cases h1 : a = x
    · rw [h1, kx]; exact Option.some_ne_none _
    · by_cases h2 : a = pl
      · rw [h2, kp]; exact Option.some_ne_none _
      · rw [off a h1 h2]; exact e
  · obtain ⟨h1, h2⟩ := nx e
    rw [off a h1 h2]; exact s.fm.e a o e
  · by_cases h1 : a = pl
    · subst h1; rw [upd_same] at z; cases z; exact kp
    · rw [upd_ne h1] at z
      by_cases h2 : a = dx
      · subst h2; rw [upd_same] at z; cases z
        rw [off a n2 n3]; exact sd
      · rw [upd_ne h2] at z
        obtain ⟨rfl, rfl⟩ := one_some z
        exact kx
theorem Sta.mAt (s : Sta Pv G0 H0 G H σ ρ) (q : ρ[i]? = some (Sl.prv (MeterR C x pl M))) : MeterAt C H x M := by
  obtain ⟨_, dx, sv, cv, pvs, h1, h2, _, _, _, d1, d2, d3, _⟩ := s.meter q
  exact ⟨dx, sv, cv, pl, pvs, h1, h2, d1.up s.fm.e, d2.up s.fm.e, d3.up s.fm.e⟩
end
/-! promises of methods -/
/-- a method that only reads -/
def PrRo (C : Addr) (f : MS → PyData) : Sp := fun vs H Q _ => ∃ x M, vs = [.ref x] ∧ MeterAt C H x M ∧ ∀ v H', Same H H' → Dv H' v (f M) → Q v H'
/-- how a method that writes ends -/
inductive MO where
  | ok (post : MS → PyData → Prop)
  | er (X : Addr)
def MWish (C x pl : Addr) (G H h : Hp) (Q : VK) (E : XK) : MO → Prop
  | .ok post => ∀ M' d u G' H' h', post M' d → Fm (fun a => h a ≠ none) G H G' H' → (MeterR C x pl M').inv (.ref x) G' h' → (∀ a, h' a ≠ none → h a ≠ none ∨ H a = none) → Same h' H' → (∀ a, h' a ≠ none → G' a = none) → Dv G' u d → Q u H'
  | .er X => ∀ H', Same H H' → E (.ref X) none H'
def PrM (C : Addr) (rel : MS → List PyData → MO → Prop) : Sp := fun vs H Q E => ∃ G h x pl M ws ds o, vs = .ref x :: ws ∧ (MeterR C x pl M).inv (.ref x) G h ∧ Same h H ∧ (∀ a, h a ≠ none → G a = none) ∧ Same G H ∧ Dvs G ws ds ∧ rel M ds o ∧ MWish C x pl G H h Q E o
section
variable {C x pl : Addr} {M M' : MS} {E : XK} {P : Out → Prop} {t : TS} {ρ : Rho} {ds : List PyData}
/-- the state at the start of a method -/
theorem meth_sta {N : List Str} {G H h : Hp} {ws : List V} (hI : (MeterR C x pl M).inv (.ref x) G h) (hsub : Same h H) (hdis : ∀ a, h a ≠ none → G a = none) (e : Same G H) (hw : Dvs G ws ds) :
    Sta (fun a => h a ≠ none) G H G H (L2.start N (.ref x :: ws)) (.prv (MeterR C x pl M) :: (ds.map Sl.dat ++ List.replicate (N.length - (ds.length + 1)) Sl.un)) := by
  have hl := hw.len
  have gd : ∀ (i : Nat) (z : Sl), (Sl.prv (MeterR C x pl M) :: (ds.map Sl.dat ++ List.replicate (N.length - (ds.length + 1)) Sl.un))[i]? = some z → (i = 0 ∧ z = .prv (MeterR C x pl M)) ∨ z = .un ∨ ∃ j d, i = j + 1 ∧ ds[j]? = some d ∧ z = .dat d := fun i z q => by
    cases i with
    | zero => simp at q; exact .inl ⟨rfl, q.symm⟩
    | succ j =>
      rw [List.getElem?_cons_succ] at q
      by_cases hi : j < ds.length
      · rw [List.getElem?_append_left (by simpa using hi), List.getElem?_map, List.getElem?_eq_getElem hi] at q
        cases q
        exact .inr (.inr ⟨j, _, rfl, List.getElem?_eq_getElem hi, rfl⟩)
      · rw [List.getElem?_append_right (by simpa using hi), List.getElem?_replicate] at q
        split at q
        · cases q; exact .inr (.inl rfl)
        · cases q
  refine ⟨.refl e, ⟨e, ?_, fun i d z => ?_⟩, fun i => if i = 0 then h else fun _ => none, fun i es z => ?_, fun i R z => ?_, fun i a o z => ?_, fun i j a hij z => ?_⟩
  · unfold L2.start
    simp only [List.length_append, List.length_map, List.length_replicate, List.length_cons, hl]
    omega
  · rcases gd i _ z with ⟨_, w⟩ | w | ⟨j, d', rfl, w1, w2⟩
    · cases w
    · cases w
    · cases w2
      obtain ⟨u, a, b⟩ := hw.get w1
      refine ⟨u, ?_, b⟩
      unfold L2.start
      rw [List.map_cons, List.cons_append, List.getElem?_cons_succ, List.getElem?_append_left (by rw [List.length_map]; exact (List.getElem?_eq_some_iff.mp a).1), List.getElem?_map, a]; rfl
  · rcases gd i _ z with ⟨_, w⟩ | w | ⟨j, d', _, _, w⟩ <;> cases w
  · rcases gd i _ z with ⟨rfl, w⟩ | w | ⟨j, d', _, _, w⟩
    · cases w
      refine ⟨.ref x, ?_, ?_⟩
      · unfold L2.start; rw [List.map_cons, List.cons_append]; rfl
      · show (MeterR C x pl M).inv (.ref x) G (if 0 = 0 then h else _); rw [if_pos rfl]; exact hI
    · cases w
    · cases w
  · have z : (if i = 0 then h else fun _ => none) a = some o := z
    by_cases hi : i = 0
    · rw [if_pos hi] at z
      exact ⟨hsub a o z, hdis a (by rw [z]; exact Option.some_ne_none _), .inl (by show h a ≠ none; rw [z]; exact Option.some_ne_none _)⟩
    · rw [if_neg hi] at z; cases z
  · have z : (if i = 0 then h else fun _ => none) a ≠ none := z
    show (if j = 0 then h else fun _ => none) a = none
    by_cases hj : j = 0
    · rw [if_neg (fun w => hij (w.trans hj.symm))] at z; exact absurd rfl z
    · rw [if_neg hj]
/-- the body of a method that ends well -/
theorem meth_ok {N : List Str} {G H h : Hp} {ws : List V} {Q : VK} {post : MS → PyData → Prop} (hI : (MeterR C x pl M).inv (.ref x) G h) (hsub : Same h H) (hdis : ∀ a, h a ≠ none → G a = none) (e : Same G H) (hw : Dvs G ws ds) (q : MWish C x pl G H h Q E (.ok post))
    (hb : SO E t (.prv (MeterR C x pl M) :: (ds.map Sl.dat ++ List.replicate (N.length - (ds.length + 1)) Sl.un)) (fun o => ∃ r M' d, o = .ret (.prv (MeterR C x pl M') :: r) d ∧ post M' d)) : t { nx := fun _ H' => Q .non H', rt := Q } (L2.start N (.ref x :: ws)) H := by
  refine hb _ _ _ _ _ _ _ (meth_sta hI hsub hdis e hw) ⟨fun _ _ _ _ p => ?_, fun _ _ _ _ p => ?_, fun _ _ _ _ p => ?_, fun ρ σ d' v G' H' p _ s hv => ?_, fun _ _ _ _ _ _ _ p => ?_, fun _ _ _ p => ?_⟩
  · obtain ⟨_, _, _, z, _⟩ := p; cases z
  · obtain ⟨_, _, _, z, _⟩ := p; cases z
  · obtain ⟨_, _, _, z, _⟩ := p; cases z
  · obtain ⟨r, M', d2, z, hpo⟩ := p
    cases z
    obtain ⟨fm, vw, hs, pr⟩ := s
    obtain ⟨v0, _, hI'⟩ := pr.pv 0 _ rfl
    obtain ⟨rfl, _⟩ := id hI'
    refine q M' _ v G' H' (hs 0) hpo fm hI' (fun a z => ?_) (fun a o z => (pr.hi 0 a o z).1) (fun a z => ?_) hv
    · cases w : hs 0 a with
      | none => exact absurd w z
      | some o => exact (pr.hi 0 a o w).2.2
    · cases w : hs 0 a with
      | none => exact absurd w z
      | some o => exact (pr.hi 0 a o w).2.1
  · obtain ⟨_, _, _, z, _⟩ := p; cases z
  · obtain ⟨_, _, _, z, _⟩ := p; cases z
end
end Dl

namespace Dl
open PySem PySem.Spec L2 Rf
section
variable {C x pl : Addr} {M M' : MS} {E : XK} {P : Out → Prop} {t u : TS} {ρ ρ' ρ1 ρ2 : Rho} {ds : List PyData} {d d1 d2 : PyData} {te ta tb : TE} {tt tu : TT} {i j : Nat} {K : PySem.W.Frag} {r : R2}
/-! fields -/
theorem ex_stack (T : MT K C) (q : ρ[i]? = some (Sl.prv (MeterR C x pl M))) : EX (tFld K (tVar i) "stack") ρ (· = dI M.1) := fun Pv G0 H0 G H σ s Q k => by
  obtain ⟨hv, dx, sv, cv, pvs, h1, h2, _, _, _, d1, d2, d3, _⟩ := s.meter q
  exact ⟨_, hv, x, C, dx, _, sv, rfl, h1, T.cl, T.n1, mfs_l1 _ _ _, k sv _ G H rfl (.refl _) s d1⟩
theorem ex_cycles (T : MT K C) (q : ρ[i]? = some (Sl.prv (MeterR C x pl M))) : EX (tFld K (tVar i) "cycles") ρ (· = dC M.2.1) := fun Pv G0 H0 G H σ s Q k => by
  obtain ⟨hv, dx, sv, cv, pvs, h1, h2, _, _, _, d1, d2, d3, _⟩ := s.meter q
  exact ⟨_, hv, x, C, dx, _, cv, rfl, h1, T.cl, T.n2, mfs_l2 _ _ _, k cv _ G H rfl (.refl _) s d2⟩
/-- self.stack = e -/
theorem so_setStack (T : MT K C) (q : ρ[i]? = some (Sl.prv (MeterR C x pl M))) {s' : List Int} (h : EX te ρ (· = dI s')) (hp : P (.nxt (ρ.set i (.prv (MeterR C x pl (s', M.2)))))) : SO E (sFld K (tVar i) te "stack") ρ P := fun Pv G0 H0 G H σ D s k =>
  h Pv G0 H0 G H σ s _ fun v d G1 H1 e g s1 hv => by
    subst e
    obtain ⟨hv0, dx, sv, cv, pvs, h1, h2, n, _, _, d1, d2, d3, fin⟩ := s1.meter q
    refine ⟨_, hv0, x, C, dx, _, rfl, h1, T.cl, T.n1, (by show 3 < 1000; decide), ?_⟩
    rw [mfs_stack]
    exact k.nx _ _ G1 _ hp g (fin _ v cv pvs (s', M.2) (fun a a1 a2 => upd_ne a1) upd_same (by rw [upd_ne n.symm]; exact h2) hv d2 d3)
/-- self.cycles = e -/
theorem so_setCycles (T : MT K C) (q : ρ[i]? = some (Sl.prv (MeterR C x pl M))) {c' : List (Int × Int)} (h : EX te ρ (· = dC c')) (hp : P (.nxt (ρ.set i (.prv (MeterR C x pl (M.1, c', M.2.2)))))) : SO E (sFld K (tVar i) te "cycles") ρ P := fun Pv G0 H0 G H σ D s k =>
  h Pv G0 H0 G H σ s _ fun v d G1 H1 e g s1 hv => by
    subst e
    obtain ⟨hv0, dx, sv, cv, pvs, h1, h2, n, _, _, d1, d2, d3, fin⟩ := s1.meter q
    refine ⟨_, hv0, x, C, dx, _, rfl, h1, T.cl, T.n2, (by show 3 < 1000; decide), ?_⟩
    rw [mfs_cycles]
    exact k.nx _ _ G1 _ hp g (fin _ sv v pvs (M.1, c', M.2.2) (fun a a1 a2 => upd_ne a1) upd_same (by rw [upd_ne n.symm]; exact h2) d1 hv d3)
/-- self.past.append((self.stack, self.cycles)) -/
theorem so_pastApp (T : MT K C) (q : ρ[i]? = some (Sl.prv (MeterR C x pl M))) (hl : M.2.2.length < 16777216) (hp : P (.nxt (ρ.set i (.prv (MeterR C x pl (M.1, M.2.1, M.2.2 ++ [(M.1, M.2.1)])))))) :
    SO E (tDrop (tBM K "list" rAppend (tFld K (tVar i) "past") (tCons (tTup (tCons (tFld K (tVar i) "stack") (tCons (tFld K (tVar i) "cycles") tNil))) tNil))) ρ P := fun Pv G0 H0 G H σ D s k => by
  obtain ⟨hv, dx, sv, cv, pvs, h1, h2, n, g1, g2, d1, d2, d3, _⟩ := s.meter q
  refine ⟨_, hv, x, C, dx, _, _, rfl, h1, T.cl, T.n3, mfs_l3 _ _ _, .inl ⟨rfl, _, SqL.of h2⟩, ?_⟩
  refine ⟨_, hv, x, C, dx, _, _, rfl, h1, T.cl, T.n1, mfs_l1 _ _ _, _, hv, x, C, dx, _, _, rfl, h1, T.cl, T.n2, mfs_l2 _ _ _, size_of (by simp), fun p hpn => ?_⟩
  have gr : Gr G H (upd G p (.tup [sv, cv])) (upd H p (.tup [sv, cv])) := .new s.fm.e hpn
  have s1 := s.grow gr
  obtain ⟨_, dx', sv', cv', pvs', k1, k2, n', _, _, e1, e2, e3, fin⟩ := s1.meter q
  have npl : pl ≠ p := ne_of_none h2 hpn
  have nx : x ≠ p := ne_of_none h1 hpn
  rw [upd_ne npl, h2] at k2
  cases k2
  rw [upd_ne nx, h1] at k1
  have e0 := congrArg (fun o => match o with | some (HO.ins _ d fs) => some (d, fs) | _ => none) k1
  simp only [Option.some.injEq, Prod.mk.injEq] at e0
  obtain ⟨rfl, e0⟩ := e0
  refine ⟨pl, pvs, .ref p, rfl, rfl, by rw [upd_ne npl]; exact h2, by rw [d3.len, List.length_map]; exact size_lt hl, ?_⟩
  refine k.nx _ _ _ _ hp gr.g (fin _ sv' cv' (pvs ++ [.ref p]) (M.1, M.2.1, M.2.2 ++ [(M.1, M.2.1)]) (fun a a1 a2 => upd_ne a2) (by rw [upd_ne n, upd_ne nx, h1, e0]) upd_same e1 e2 ?_)
  show Dvs _ _ ((M.2.2 ++ [(M.1, M.2.1)]).map pD)
  rw [List.map_append]
  exact (d3.up gr.g).app (.cons (.tup upd_same (.cons (d1.up gr.g) (.cons (d2.up gr.g) .nil))) .nil)
/-! reading, the whole state known -/
def EDR (te : TE) (ρ : Rho) (d : PyData) : Prop := ∀ Pv G0 H0 G H σ, Sta Pv G0 H0 G H σ ρ → ∀ Q : VK, (∀ v H', Same H H' → Dv H' v d → Q v H') → te σ H Q
theorem edr_ed (h : ED te (fz ρ) d) : EDR te ρ d := fun Pv G0 H0 G H σ s Q q => h H H σ s.fz Q fun v G' H' x hv => q v H' x.h (hv.up x.e)
theorem edr_op (h1 : EDR ta ρ d1) (h2 : EDR tb ρ d2) (hr : RD r d1 d2 d) : EDR (tOp r ta tb) ρ d := fun Pv G0 H0 G H σ s Q q =>
  h1 Pv G0 H0 G H σ s _ fun v H1 x1 hv => h2 Pv G0 H0 G H1 σ (s.more x1) _ fun w H2 x2 hw => hr H2 H2 v w (.refl _) (hv.up x2) hw Q fun z G3 H3 x3 hz => q z H3 ((x1.trans x2).trans x3.h) (hz.up x3.e)
theorem edr_tup2 (h1 : EDR ta ρ d1) (h2 : EDR tb ρ d2) : EDR (tTup (tCons ta (tCons tb tNil))) ρ (.tuple [d1, d2]) := fun Pv G0 H0 G H σ s Q q =>
  h1 Pv G0 H0 G H σ s _ fun v H1 x1 hv => h2 Pv G0 H0 G H1 σ (s.more x1) _ fun w H2 x2 hw => ⟨size_of (by simp), fun p hp => q _ _ ((x1.trans x2).trans (same_new hp)) (.tup upd_same (.cons ((hv.up x2).up (same_new hp)) (.cons (hw.up (same_new hp)) .nil)))⟩
theorem edr_meth {m : Str} {f : MS → PyData} {E1 : XK} (q : ρ[i]? = some (Sl.prv (MeterR C x pl M))) (h1 : ¬ m = "stack") (h2 : ¬ m = "cycles") (h3 : ¬ m = "past") : EDR (tMeth C m (PrRo C f) [] E1 (tVar i) tNil) ρ (f M) := fun Pv G0 H0 G H σ s Q k => by
  obtain ⟨hv, dx, sv, cv, pvs, e1, e2, _⟩ := s.meter q
  exact ⟨_, hv, x, dx, _, rfl, e1, mfs_no _ _ _ h1 h2 h3, x, M, rfl, s.mAt q, k⟩
theorem edr_len {f : MS → PyData} {E1 : XK} {n : Nat} (q : ρ[i]? = some (Sl.prv (MeterR C x pl M))) (hf : f M = .int n) (hn : n < 2 ^ 63) : EDR (tCB (rLenO C (PrRo C f) E1) (tCons (tVar i) tNil)) ρ (.int n) := fun Pv G0 H0 G H σ s Q k => by
  obtain ⟨hv, dx, sv, cv, pvs, e1, e2, _⟩ := s.meter q
  refine ⟨_, hv, x, dx, _, rfl, e1, x, M, rfl, s.mAt q, fun v H' e hd => ?_⟩
  rw [hf] at hd
  cases hd
  exact ⟨n, rfl, by omega, by omega, k _ _ e (.int _)⟩
theorem pl_pD (e : List Int × List (Int × Int)) : Pl 3 (pD e) := pl_tup fun d h => by
  rcases List.mem_cons.mp h with rfl | h
  · exact (pl_dI _).up (by decide)
  · rcases List.mem_cons.mp h with rfl | h
    · exact pl_dC _
    · cases h
theorem edr_past (T : MT K C) (q : ρ[i]? = some (Sl.prv (MeterR C x pl M))) : EDR (tFld K (tVar i) "past") ρ (.list (M.2.2.map pD)) := fun Pv G0 H0 G H σ s Q k => by
  obtain ⟨hv, dx, sv, cv, pvs, h1, h2, _, _, _, d1, d2, d3, _⟩ := s.meter q
  exact ⟨_, hv, x, C, dx, _, _, rfl, h1, T.cl, T.n3, mfs_l3 _ _ _, k _ _ (.refl _) (.lst h2 (d3.up s.fm.e))⟩
theorem edr_noPast (T : MT K C) (q : ρ[i]? = some (Sl.prv (MeterR C x pl M))) : EDR (tOp (rEqD K) (tFld K (tVar i) "past") (tLst tNil)) ρ (.bool M.2.2.isEmpty) := by
  have h := edr_op (r := rEqD K) (edr_past T q) (edr_ed (ed_lst ea_nil (by simp))) (rd_eq (pl_map pl_pD M.2.2) (pl_list (n := 0) (ds := []) fun _ h => by cases h))
  rw [eqv_nil] at h
  exact h
/-- self.stack, self.cycles = self.past.pop() -/
theorem so_popSet (T : MT K C) (q : ρ[i]? = some (Sl.prv (MeterR C x pl M))) {e : List Int × List (Int × Int)} (he : M.2.2[M.2.2.length - 1]? = some e) (hp : P (.nxt (ρ.set i (.prv (MeterR C x pl (e.1, e.2, M.2.2.dropLast)))))) :
    SO E (tAsg (tBM0 K "list" rPop (tFld K (tVar i) "past")) (gTup K 2 (gCons (gFld K (tVar i) "stack") (gCons (gFld K (tVar i) "cycles") gNil)))) ρ P := fun Pv G0 H0 G H σ D s k => by
  obtain ⟨hv, dx, sv, cv, pvs, h1, h2, n, g1, g2, d1, d2, d3, fin⟩ := s.meter q
  refine ⟨_, hv, x, C, dx, _, _, rfl, h1, T.cl, T.n3, mfs_l3 _ _ _, .inl ⟨rfl, _, SqL.of h2⟩, ?_⟩
  have hl := d3.len
  rw [List.length_map] at hl
  obtain ⟨y, hy, hd⟩ := d3.get (i := M.2.2.length - 1) (d := pD e) (by rw [List.getElem?_map, he]; rfl)
  refine ⟨pl, pvs, y, rfl, rfl, h2, by rw [hl]; exact hy, ?_⟩
  unfold pD at hd
  cases hd with
  | @tup t xs _ k1 k2 =>
    cases k2 with
    | @cons v1 _ _ _ k2 k3 =>
      cases k3 with
      | @cons v2 _ _ _ k3 k4 =>
        cases k4
        have nt : t ≠ pl := fun z => by rw [z, g2] at k1; cases k1
        refine ⟨t, _, rfl, SqT.of (by rw [upd_ne nt]; exact s.fm.e _ _ k1), rfl, v1, _, rfl, _, hv, x, C, dx, _, rfl, by rw [upd_ne n]; exact h1, T.cl, T.n1, (by show 3 < 1000; decide), ?_⟩
        rw [mfs_stack]
        refine ⟨v2, _, rfl, _, hv, x, C, dx, _, rfl, upd_same, T.cl, T.n2, (by show 3 < 1000; decide), rfl, ?_⟩
        rw [mfs_cycles]
        refine k.nx _ _ G _ hp (.refl _) (fin _ v1 v2 pvs.dropLast (e.1, e.2, M.2.2.dropLast) (fun a a1 a2 => by rw [upd_ne a1, upd_ne a1, upd_ne a2]) upd_same (by rw [upd_ne n.symm, upd_ne n.symm, upd_same]) k2 k3 ?_)
        show Dvs G pvs.dropLast (M.2.2.dropLast.map pD)
        rw [List.dropLast_eq_take, List.dropLast_eq_take, List.map_take, hl]
        exact d3.take _
theorem so_retR (h : EDR te ρ d) (hd : Sca d) (hp : P (.ret ρ d)) : SO E (tRet te) ρ P := fun Pv G0 H0 G H σ D s k => h Pv G0 H0 G H σ s _ fun v H' e hv => k.rt _ _ d v G H' hp (.refl _) (s.more e) (hd.dv hv)
/-! tests that may change the state -/
def ETM (tt : TT) (ρ ρ' : Rho) (b : Bool) : Prop := ∀ Pv G0 H0 G H σ, Sta Pv G0 H0 G H σ ρ → ∀ Q : Bool → Hp → Prop, (∀ G' H', Same G G' → Sta Pv G0 H0 G' H' σ ρ' → Q b H') → tt σ H Q
def EDM (te : TE) (ρ ρ' : Rho) (d : PyData) : Prop := ∀ Pv G0 H0 G H σ, Sta Pv G0 H0 G H σ ρ → ∀ Q : VK, (∀ v G' H', Same G G' → Sta Pv G0 H0 G' H' σ ρ' → Dv G' v d → Q v H') → te σ H Q
theorem etm_edr {b : Bool} (h : EDR te ρ (.bool b)) : ETM (tTest te) ρ ρ b := fun Pv G0 H0 G H σ s Q q => h Pv G0 H0 G H σ s _ fun v H1 x1 hv => by cases hv; exact ⟨b, rfl, q G H1 (.refl _) (s.more x1)⟩
theorem etm_et {b : Bool} (h : ET tt (fz ρ) b) : ETM tt ρ ρ b := fun Pv G0 H0 G H σ s Q q => h H H σ s.fz Q fun H1 x1 => q G H1 (.refl _) (s.more x1)
theorem etm_op {b : Bool} (h1 : EDM ta ρ ρ' d1) (h2 : EDR tb ρ' d2) (hr : RD r d1 d2 (.bool b)) : ETM (tTest (tOp r ta tb)) ρ ρ' b := fun Pv G0 H0 G H σ s Q q =>
  h1 Pv G0 H0 G H σ s _ fun v G1 H1 e1 s1 hv => h2 Pv G0 H0 G1 H1 σ s1 _ fun w H2 x2 hw => hr H2 H2 v w (.refl _) ((hv.up s1.fm.e).up x2) hw _ fun z G3 H3 x3 hz => by
    cases hz
    exact ⟨b, rfl, q G1 H3 e1 (s1.more (x2.trans x3.h))⟩
theorem etm_or {a b : Bool} (h1 : ETM tt ρ ρ1 a) (h2 : a = false → ETM tu ρ1 ρ1 b) : ETM (tOr tt tu) ρ ρ1 (a || b) := fun Pv G0 H0 G H σ s Q q => h1 Pv G0 H0 G H σ s _ fun G1 H1 e1 s1 => by
  cases a with
  | true => exact iteT (q G1 H1 e1 s1)
  | false => exact iteF (h2 rfl Pv G0 H0 G1 H1 σ s1 Q fun G2 H2 e2 s2 => q G2 H2 (e1.trans e2) s2)
theorem etm_and {a b : Bool} (h1 : ETM tt ρ ρ1 a) (h2 : a = true → ETM tu ρ1 ρ1 b) : ETM (tAnd tt tu) ρ ρ1 (a && b) := fun Pv G0 H0 G H σ s Q q => h1 Pv G0 H0 G H σ s _ fun G1 H1 e1 s1 => by
  cases a with
  | true => exact iteT (h2 rfl Pv G0 H0 G1 H1 σ s1 Q fun G2 H2 e2 s2 => q G2 H2 (e1.trans e2) s2)
  | false => exact iteF (q G1 H1 e1 s1)
theorem etm_is {a b : Bool} (h : ETM tt ρ ρ' a) (e : a = b) : ETM tt ρ ρ' b := e ▸ h
theorem so_ifM {b : Bool} {w : TS} (h : ETM tt ρ ρ' b) (h1 : b = true → SO E t ρ' P) (h2 : b = false → SO E w ρ' P) : SO E (tIfS tt t w) ρ P := fun Pv G0 H0 G H σ D s k => h Pv G0 H0 G H σ s _ fun G1 H1 e1 s1 => by
  cases b with
  | true => exact iteT (h1 rfl Pv G0 H0 G1 H1 σ D s1 (k.up e1))
  | false => exact iteF (h2 rfl Pv G0 H0 G1 H1 σ D s1 (k.up e1))
theorem sq_noM (h : ETM tt ρ ρ' false) (k : SO E u ρ' P) : SO E (tSeq (tIfS tt t tNext) u) ρ P := so_seq (so_ifM h (fun z => Bool.noConfusion z) (fun _ => so_next k))
/-- f(meter, ..) that changes it -/
theorem edm_call {E1 : XK} {tr : TA} {rel : MS → List PyData → MO → Prop} {post : MS → PyData → Prop} (q : ρ[i]? = some (Sl.prv (MeterR C x pl M))) (h : EA tr ρ ds) (hr : rel M ds (.ok post)) (hf : ∀ M2 d2, post M2 d2 → M2 = M' ∧ d2 = d) : EDM (tCall (PrM C rel) [] E1 (tCons (tVar i) tr)) ρ (ρ.set i (.prv (MeterR C x pl M'))) d := fun Pv G0 H0 G H σ s Q k => by
  obtain ⟨hv, _⟩ := s.meter q
  refine ⟨_, hv, h G H σ s.vw _ fun ws G1 H1 x1 hw => ?_⟩
  obtain ⟨v, h1, hv1, hI, hsub, hdis, fin⟩ := (s.grow x1).res q
  rw [hv] at hv1; cases hv1
  refine ⟨G1, h1, x, pl, M, ws, ds, .ok post, by rw [List.append_nil], hI, hsub, hdis, x1.e, hw, hr, fun M2 d2 v2 G' H' h' hpo fm hI' hdom hs2 hg hd => ?_⟩
  obtain ⟨rfl, rfl⟩ := hf M2 d2 hpo
  exact k v2 G' H' (x1.g.trans fm.g) (fin G' H' h' _ fm hI' hdom hs2 hg) hd
/-- y = f(meter, ..) -/
theorem sq_asgMP {E1 : XK} {tr : TA} {rel : MS → List PyData → MO → Prop} {post : MS → PyData → Prop} (q : ρ[i]? = some (Sl.prv (MeterR C x pl M))) (h : EA tr ρ ds) (hr : rel M ds (.ok post)) (hp : ∀ M2 d2, post M2 d2 → SO E u ((ρ.set i (.prv (MeterR C x pl M2))).set j (.dat d2)) P) :
    SO E (tSeq (tAsg (tCall (PrM C rel) [] E1 (tCons (tVar i) tr)) (gName j)) u) ρ P := so_seq fun Pv G0 H0 G H σ D s k => by
  obtain ⟨hv, _⟩ := s.meter q
  refine ⟨_, hv, h G H σ s.vw _ fun ws G1 H1 x1 hw => ?_⟩
  obtain ⟨v, h1, hv1, hI, hsub, hdis, fin⟩ := (s.grow x1).res q
  rw [hv] at hv1; cases hv1
  refine ⟨G1, h1, x, pl, M, ws, ds, .ok post, by rw [List.append_nil], hI, hsub, hdis, x1.e, hw, hr, fun M2 d2 v2 G' H' h' hpo fm hI' hdom hs2 hg hd => ?_⟩
  exact k.nx _ _ G' H' (hp M2 d2 hpo) (x1.g.trans fm.g) ((fin G' H' h' _ fm hI' hdom hs2 hg).set hd)
theorem so_asgM (h : EDM te ρ ρ' d) (hp : P (.nxt (ρ'.set j (.dat d)))) : SO E (tAsg te (gName j)) ρ P := fun Pv G0 H0 G H σ D s k => h Pv G0 H0 G H σ s _ fun v G1 H1 e1 s1 hv => k.nx _ _ G1 H1 hp e1 (s1.set hv)
theorem sq_asgM (h : EDM te ρ ρ' d) (hp : SO E u (ρ'.set j (.dat d)) P) : SO E (tSeq (tAsg te (gName j)) u) ρ P := so_seq (so_asgM h hp)
/-- found = meter.m(..) in a try -/
theorem tb_meth {m : Str} {tr : TA} {o : MO} {rel : MS → List PyData → MO → Prop} (q : ρ[i]? = some (Sl.prv (MeterR C x pl M))) (m1 : ¬ m = "stack") (m2 : ¬ m = "cycles") (m3 : ¬ m = "past") (h : EA tr ρ ds) (hr : rel M ds o)
    (h1 : ∀ post, o = .ok post → ∀ M' d, post M' d → P (.nxt ((ρ.set i (.prv (MeterR C x pl M'))).set j (.dat d)))) (h3 : ∀ Z, o = .er Z → P (.exc Z)) : TB (fun Z => tAsg (tMethE C m (PrM C rel) (WE Z) (tVar i) tr) (gName j)) ρ P := fun Pv G0 H0 G H σ D Z s k xx => by
  obtain ⟨hv, dx, sv, cv, pvs, e1, _⟩ := s.meter q
  refine ⟨_, hv, x, dx, _, rfl, e1, mfs_no _ _ _ m1 m2 m3, h G H σ s.vw _ fun ws G1 H1 x1 hw => ?_⟩
  obtain ⟨v, h1', hv1, hI, hsub, hdis, fin⟩ := (s.grow x1).res q
  rw [hv] at hv1; cases hv1
  refine ⟨G1, h1', x, pl, M, ws, ds, o, rfl, hI, hsub, hdis, x1.e, hw, hr, ?_⟩
  cases o with
  | ok post => exact fun M2 d2 v2 G' H' h' hpo fm hI' hdom hs2 hg hd => k.nx _ _ G' H' (h1 post rfl M2 d2 hpo) (x1.g.trans fm.g) ((fin G' H' h' _ fm hI' hdom hs2 hg).set hd)
  | er Y => exact fun H' e => xx Y H' (h3 Y rfl) (x1.h.trans e)
/-- shown, a, b = (Meter(), [], []) -/
def sp_init (C : Addr) : Sp := fun vs H Q _ => ∃ x dx, vs = [.ref x] ∧ H x = some (.ins C dx []) ∧ ∀ s1 c1 pl H', (∀ b o, H b = some o → b ≠ x → H' b = some o) → H s1 = none → H c1 = none → H pl = none → s1 ≠ c1 → s1 ≠ pl → c1 ≠ pl →
  H' x = some (.ins C dx (mfs (.ref s1) (.ref c1) pl)) → H' s1 = some (.lst []) → H' c1 = some (.lst []) → H' pl = some (.lst []) → Q .non H'
theorem Sta.mkMeter {Pv : Addr → Prop} {G0 H0 G H H1 : Hp} {σ : St} {dx s1 c1 : Addr} (s : Sta Pv G0 H0 G H σ ρ) (nx : H x = none) (nd : H dx = none) (ne : dx ≠ x) (off : ∀ b o, (upd (upd H dx (.own x)) x (.ins C dx [])) b = some o → b ≠ x → H1 b = some o)
    (n1 : (upd (upd H dx (.own x)) x (.ins C dx [])) s1 = none) (n2 : (upd (upd H dx (.own x)) x (.ins C dx [])) c1 = none) (n3 : (upd (upd H dx (.own x)) x (.ins C dx [])) pl = none) (d1 : s1 ≠ c1) (d2 : s1 ≠ pl) (d3 : c1 ≠ pl)
    (hx : H1 x = some (.ins C dx (mfs (.ref s1) (.ref c1) pl))) (hs : H1 s1 = some (.lst [])) (hc : H1 c1 = some (.lst [])) (hp : H1 pl = some (.lst [])) :
    Same G (upd (upd G s1 (.lst [])) c1 (.lst [])) ∧ Sta Pv G0 H0 (upd (upd G s1 (.lst [])) c1 (.lst [])) H1 (σ.set i (some (.ref x))) (ρ.set i (.prv (MeterR C x pl ([], [], [])))) := by
  have fr : ∀ {a : Addr}, (upd (upd H dx (.own x)) x (.ins C dx [])) a = none → a ≠ x ∧ a ≠ dx ∧ H a = none := fun {a} z => by
    have h1 : a ≠ x := fun w => by rw [w, upd_same] at z; cases z
    rw [upd_ne h1] at z
    have h2 : a ≠ dx := fun w => by rw [w, upd_same] at z; cases z
    rw [upd_ne h2] at z
    exact ⟨h1, h2, z⟩
  obtain ⟨a1, a2, a3⟩ := fr n1
  obtain ⟨b1, b2, b3⟩ := fr n2
  obtain ⟨c1', c2', c3'⟩ := fr n3
  have sH : Same H H1 := fun b o e => by
    have h1 : b ≠ x := ne_of_none e nx
    have h2 : b ≠ dx := ne_of_none e nd
    exact off b o (by rw [upd_ne h1, upd_ne h2]; exact e) h1
  have g1 := s.fm.e.free a3
  have g2 := s.fm.e.free b3
  have sG : Same G (upd (upd G s1 (.lst [])) c1 (.lst [])) := fun b o e => by rw [upd_ne (ne_of_none e g2), upd_ne (ne_of_none e g1)]; exact e
  have sGH : Same (upd (upd G s1 (.lst [])) c1 (.lst [])) H1 := fun b o e => by
    by_cases hb : b = c1
    · subst hb; rw [upd_same] at e; cases e; exact hc
    · rw [upd_ne hb] at e
      by_cases hb2 : b = s1
      · subst hb2; rw [upd_same] at e; cases e; exact hs
      · rw [upd_ne hb2] at e; exact sH b o (s.fm.e b o e)
  have gr : Gr G H (upd (upd G s1 (.lst [])) c1 (.lst [])) H1 := ⟨sG, sH, sGH, fun a z1 z2 => by rw [upd_ne (fun w => z2 (by rw [w]; exact b3)), upd_ne (fun w => z2 (by rw [w]; exact a3))]; exact z1⟩
  have hdx : H1 dx = some (.own x) := off dx _ (by rw [upd_ne ne, upd_same]) ne
  have gN : ∀ a, H a = none → a ≠ s1 → a ≠ c1 → (upd (upd G s1 (.lst [])) c1 (.lst [])) a = none := fun a z w1 w2 => by rw [upd_ne w2, upd_ne w1]; exact s.fm.e.free z
  have h0 : ∀ a, H a = none → H0 a = none := fun a z => by
    cases e : H0 a with
    | none => rfl
    | some o => exact absurd z (s.fm.k a (by rw [e]; exact Option.some_ne_none _))
  have s2 := s.grow gr
  obtain ⟨_, _, hs0, pr0⟩ := id s
  obtain ⟨hs2, pr⟩ : ∃ hs2, Pri Pv H0 (upd (upd G s1 (.lst [])) c1 (.lst [])) H1 σ ρ hs2 ∧ ∀ j a, hs2 j a ≠ none → H a ≠ none := ⟨hs0, pr0.grow gr, fun j a z => by
    cases e : hs0 j a with
    | none => exact absurd e z
    | some o => rw [(pr0.hi j a o e).1]; exact Option.some_ne_none _⟩
  refine ⟨sG, Sta.put (h := upd (upd (one x (.ins C dx (mfs (.ref s1) (.ref c1) pl))) dx (.own x)) pl (.lst [])) s2.fm s2.vw pr.1 (fun d z => by cases z) (fun es z => by cases z) (fun R z => ?_) (fun a o z => ?_) (fun j a hj z => ?_)⟩
  · cases z
    refine ⟨rfl, dx, .ref s1, .ref c1, [], c1'.symm, ne, c2'.symm, rfl, .lst (by rw [upd_ne d1, upd_same]) .nil, .lst upd_same .nil, .nil⟩
  · by_cases h1 : a = pl
    · subst h1; rw [upd_same] at z; cases z
      exact ⟨hp, gN _ c3' d2.symm d3.symm, .inr (h0 _ c3')⟩
    · rw [upd_ne h1] at z
      by_cases h2 : a = dx
      · subst h2; rw [upd_same] at z; cases z
        exact ⟨hdx, gN _ nd a2.symm b2.symm, .inr (h0 _ nd)⟩
      · rw [upd_ne h2] at z
        obtain ⟨rfl, rfl⟩ := one_some z
        exact ⟨hx, gN _ nx a1.symm b1.symm, .inr (h0 _ nx)⟩
  · have ha : H a = none := by
      by_cases h1 : a = pl
      · rw [h1]; exact c3'
      · rw [upd_ne h1] at z
        by_cases h2 : a = dx
        · rw [h2]; exact nd
        · rw [upd_ne h2] at z; rw [one_ne z]; exact nx
    cases e : hs2 j a with
    | none => rfl
    | some o => exact absurd ha (pr.2 j a (by rw [e]; exact Option.some_ne_none _))
theorem so_par3M {l : Nat} {E1 : XK} (hp : ∀ x pl, P (.nxt (((ρ.set i (.prv (MeterR C x pl ([], [], [])))).set j (.dat (.list []))).set l (.dat (.list []))))) : SO E (tPar3 i j l (tCons (tMake C (sp_init C) [] E1 tNil) (tCons (tLst tNil) (tCons (tLst tNil) tNil)))) ρ P := fun Pv G0 H0 G H σ D s k => by
  intro x dx nx nd ne
  refine ⟨x, dx, rfl, upd_same, fun s1 c1 pl H1 off n1 n2 n3 d1 d2 d3 hx hs hc hpl => ⟨rfl, ?_⟩⟩
  obtain ⟨sG, st⟩ := s.mkMeter (i := i) nx nd ne off n1 n2 n3 d1 d2 d3 hx hs hc hpl
  refine ⟨size_of (by simp), fun p1 hp1 => ⟨size_of (by simp), fun p2 hp2 => ⟨_, _, _, rfl, ?_⟩⟩⟩
  have g1 := Gr.new (o := .lst []) st.fm.e hp1
  have st1 := st.grow g1
  have g2 := Gr.new (o := .lst []) st1.fm.e hp2
  have st2 := st1.grow g2
  exact k.nx _ _ _ _ (hp x pl) ((sG.trans g1.g).trans g2.g) ((st2.set (d := .list []) (.lst (g2.g _ _ upd_same) .nil)).set (d := .list []) (.lst upd_same .nil))
theorem so_mkM {E1 : XK} (hp : ∀ x pl, P (.nxt (ρ.set i (.prv (MeterR C x pl ([], [], [])))))) : SO E (tAsg (tMake C (sp_init C) [] E1 tNil) (gName i)) ρ P := fun Pv G0 H0 G H σ D s k => by
  intro x dx nx nd ne
  refine ⟨x, dx, rfl, upd_same, fun s1 c1 pl H1 off n1 n2 n3 d1 d2 d3 hx hs hc hpl => ⟨rfl, ?_⟩⟩
  obtain ⟨sG, st⟩ := s.mkMeter (i := i) nx nd ne off n1 n2 n3 d1 d2 d3 hx hs hc hpl
  exact k.nx _ _ _ _ (hp x pl) sG st
/-! the same rules, K named -/
theorem pe_fldK {X : Cx} {e : Expr} {f : Str} {pos : Pos} {ta : TE} (h : X.K = K) (he : PE X e ta) (hb : attributeBase e f X.env (eval e X.env) = eval e X.env := by rfl) : PE X (.Attribute e f pos) (tFld K ta f) := h ▸ pe_fld he hb
theorem ps_fldK {X : Cx} {o v : Expr} {f : Str} {p1 p2 : Pos} {ta tv : TE} (h : X.K = K) (ha : PE X o ta) (hv : PE X v tv) (hs : swapsWith v (some (.Attribute o f p1)) p2.line X.env = pure false := by rfl) : PS X (.Assign [.Attribute o f p1] v p2) (sFld K ta tv f) := h ▸ ps_fld ha hv hs
theorem pg_fldK {X : Cx} {o : Expr} {f : Str} {pos : Pos} {to : TE} (h : X.K = K) (ho : PE X o to) : PG X (.Attribute o f pos) (gFld K to f) := h ▸ pg_fld ho
theorem pe_bm0KK {X : Cx} {o : Expr} {to : TE} {name : Str} {apos cpos : Pos} {T id : String} {r : V → List V → Hp → VK → Prop} (h : X.K = K) (pa : PlainAttrs T) (slot : Slot T name id) (hty : typeOf (.builtin id) = pure (.type "method_descriptor")) (hm : MtR X id r) (ho : PE X o to)
    (h1 : attributeBase o name X.env (eval o X.env) = eval o X.env := by rfl) (h2 : (apos.endLine == cpos.line) = true := by rfl) : PE X (.Call (.Attribute o name apos) [] [] cpos) (tBM0 K T r to) := h ▸ pe_bm0 pa slot hty hm ho h1 h2
end
end Dl

/-! values one by one -/
namespace Rf
open Dl L2
theorem wv_eq {st : List Int} (t : isT st) (v : Int) : turned (st ++ [v]) = (psh st.reverse v).reverse := by
  apply List.reverse_inj.mp
  rw [turned_fold, List.foldl_append, ← turned_fold, turned_self t, List.reverse_reverse]; rfl
theorem wv_nf {st : List Int} (t : isT st) (h : Nf st) (v : Int) : Nf (turned (st ++ [v])).dropLast := by
  rw [wv_eq t]
  have hr : st = st.reverse.reverse := (List.reverse_reverse st).symm
  generalize st.reverse = s at *
  match s with
  | [] => exact nf_short (by simp [psh])
  | [b] =>
    rw [psh_one]
    split <;> exact nf_short (by simp)
  | b :: p :: r =>
    rw [psh_two]
    split
    · rw [hr] at h
      rw [List.reverse_cons] at h ⊢
      rw [List.dropLast_concat]
      exact h.pre
    · split
      · rw [List.reverse_cons, List.dropLast_concat]
        rw [hr] at h
        exact h
      · rw [List.reverse_cons, List.dropLast_concat]
        rw [hr, List.reverse_cons] at h
        exact h.pre
def topIn (s : List Int) : Bool := decide (4 ≤ s.length) && innerAt s ((s.length : Int) - 3)
theorem topIn_form {s : List Int} (h : topIn s = true) : ∃ q a b c d, s = q ++ [a, b, c, d] ∧ inr a b c d ∧ gI s (-3) = b ∧ gI s (-2) = c ∧ cut s none (some (-3)) ++ cut s (some (-1)) none = q ++ [a, d] := by
  unfold topIn at h
  rw [Bool.and_eq_true, decide_eq_true_eq] at h
  obtain ⟨hl, hi⟩ := h
  obtain ⟨q, a, b, c, d, r, e, hk, i⟩ := innerAt_iff.mp hi
  have hr : r = [] := by
    have := congrArg List.length e
    simp at this
    exact List.length_eq_zero_iff.mp (by omega)
  subst hr
  subst e
  refine ⟨q, a, b, c, d, rfl, i, ?_, ?_, ?_⟩
  · unfold gI; rw [if_neg (by omega)]; simp
    rw [show (-3 + ((q.length : Int) + 4)).toNat = q.length + 1 from by omega]; simp
  · unfold gI; rw [if_neg (by omega)]; simp
    rw [show (-2 + ((q.length : Int) + 4)).toNat = q.length + 2 from by omega]; simp
  · have c1 : cut (q ++ [a, b, c, d]) none (some (-3)) = q ++ [a] := by
      rw [show (-3 : Int) = -((3 : Nat) : Int) from rfl, cut_but _ 3 (by omega)]
      rw [show (q ++ [a, b, c, d]).length - 3 = q.length + 1 from by simp, List.take_append, List.take_of_length_le (by omega)]; simp
    have c2 : cut (q ++ [a, b, c, d]) (some (-1)) none = [d] := by
      rw [show (-1 : Int) = -((1 : Nat) : Int) from rfl, cut_last _ 1 (by omega)]
      simp [List.drop_append]
    rw [c1, c2]; simp
def WOk (gs : List (Int × Int)) (s : List Int) : Prop := (gs.map fun p => p.2 - p.1).Pairwise (· ≤ ·) ∧ ∀ p ∈ gs, topIn s = true → p.2 - p.1 ≤ (mkc (gI s (-3)) (gI s (-2))).2 - (mkc (gI s (-3)) (gI s (-2))).1
theorem mkc_wid (b c : Int) : (mkc b c).2 - (mkc b c).1 = ((b - c).natAbs : Int) := by unfold mkc; simp only; omega
theorem wok_nil (s : List Int) : WOk [] s := ⟨.nil, fun _ h => by cases h⟩
theorem wok_step {s : List Int} {gs : List (Int × Int)} (h : Nf s.dropLast) (hb : topIn s = true) (w : WOk gs s) : WOk (gs ++ [mkc (gI s (-3)) (gI s (-2))]) (cut s none (some (-3)) ++ cut s (some (-1)) none) := by
  obtain ⟨q, a, b, c, d, e, i, g1, g2, e2⟩ := topIn_form hb
  have key : topIn (q ++ [a, d]) = true → (mkc b c).2 - (mkc b c).1 ≤ (mkc (gI (q ++ [a, d]) (-3)) (gI (q ++ [a, d]) (-2))).2 - (mkc (gI (q ++ [a, d]) (-3)) (gI (q ++ [a, d]) (-2))).1 := fun ht => by
    obtain ⟨q', x, y, z, d', e', i', g1', g2', _⟩ := topIn_form ht
    rw [g1', g2', mkc_wid, mkc_wid]
    have e3 : q ++ [a] ++ [d] = q' ++ [x, y, z] ++ [d'] := by simpa using e'
    obtain ⟨e4, _⟩ := List.append_inj' e3 rfl
    have e5 : q ++ [a] = q' ++ [x, y] ++ [z] := by simpa using e4
    obtain ⟨e6, e7⟩ := List.append_inj' e5 rfl
    cases e7
    have hn : ¬ inr x y a b := fun hin => by
      have hd : s.dropLast = q' ++ x :: y :: a :: b :: [c] := by
        rw [e, e6, List.dropLast_append_of_ne_nil (by simp)]; simp
      rw [hd] at h
      exact h _ _ (Red.at q' [c] hin)
    unfold inr at hn i i'
    omega
  rw [e2, g1, g2]
  have w2 := w.2
  simp only [g1, g2] at w2
  refine ⟨?_, fun p hp ht => ?_⟩
  · rw [List.map_append, List.pairwise_append]
    refine ⟨w.1, by simp, fun u hu v hv => ?_⟩
    obtain ⟨p, hp, rfl⟩ := List.mem_map.mp hu
    simp only [List.map_cons, List.map_nil, List.mem_singleton] at hv
    rw [hv]
    exact w2 p hp hb
  · rcases List.mem_append.mp hp with hp | hp
    · exact Int.le_trans (w2 p hp hb) (key ht)
    · rw [List.mem_singleton] at hp
      rw [hp]; exact key ht
/-- the state of a meter behind a row -/
structure MOk (row : List Int) (M : MS) : Prop where
  st : M.1 = re_ row
  cs : M.2.1.Perm (cy_ row)
  ln : M.2.2.length = row.length
  ps : ∀ k, k < row.length → ∃ c : List (Int × Int), M.2.2[k]? = some (re_ (row.take k), c) ∧ c.Perm (cy_ (row.take k))
theorem re_nil : re_ [] = [] := by
  have := re_len []
  exact List.length_eq_zero_iff.mp (by simpa using this)
theorem cy_nil : cy_ [] = [] := by
  have := cy_len []
  exact List.length_eq_zero_iff.mp (by simpa using this)
theorem mok_nil : MOk [] ([], [], []) := ⟨re_nil.symm, by rw [cy_nil], rfl, fun k h => absurd h (Nat.not_lt_zero _)⟩
/-- what push does -/
def PushP (n : Int) (M M' : MS) (fnd : List (Int × Int)) : Prop := ∃ s1, RS (turned (M.1 ++ [n])) fnd s1 ∧ Nf s1 ∧ (fnd.map fun p => p.2 - p.1).Pairwise (· ≤ ·) ∧ M' = (s1, M.2.1 ++ fnd, M.2.2 ++ [(M.1, M.2.1)])
theorem push_row {row : List Int} {n : Int} {M M' : MS} {fnd : List (Int × Int)} (h : MOk row M) (p : PushP n M M' fnd) : MOk (row ++ [n]) M' ∧ (cy_ row ++ fnd).Perm (cy_ (row ++ [n])) := by
  obtain ⟨s1, hrs, hnf, _, rfl⟩ := p
  have j := joinL row [n]
  rw [h.st] at hrs
  obtain ⟨e1, e2⟩ := cyc_is (turned_isT _) hrs hnf
  have hf : fnd.Perm (cy_ (re_ row ++ [n])) := by
    show fnd.Perm (cyc (turned (re_ row ++ [n])))
    rw [← e1]; exact (srtC_perm fnd).symm
  have hp : (cy_ row ++ fnd).Perm (cy_ (row ++ [n])) := (List.Perm.append_left _ hf).trans j.1
  refine ⟨⟨by show s1 = _; rw [e2]; exact j.2, (List.Perm.append_right _ h.cs).trans hp, by simp [h.ln], fun k hk => ?_⟩, hp⟩
  have hl := h.ln
  rw [List.length_append, List.length_singleton] at hk
  by_cases hk2 : k < row.length
  · obtain ⟨c, c1, c2⟩ := h.ps k hk2
    refine ⟨c, ?_, ?_⟩
    · show (M.2.2 ++ [(M.1, M.2.1)])[k]? = _
      rw [List.getElem?_append_left (by omega), List.take_append_of_le_length (by omega)]; exact c1
    · rw [List.take_append_of_le_length (by omega)]; exact c2
  · have e : k = row.length := by omega
    subst e
    refine ⟨M.2.1, ?_, ?_⟩
    · show (M.2.2 ++ [(M.1, M.2.1)])[row.length]? = _
      rw [List.getElem?_append_right (by omega), hl, Nat.sub_self, List.take_append_of_le_length (Nat.le_refl _), List.take_length, h.st]; rfl
    · rw [List.take_append_of_le_length (Nat.le_refl _), List.take_length]; exact h.cs
/-- what undo does -/
def undoM (M : MS) (e : List Int × List (Int × Int)) : MS := (e.1, e.2, M.2.2.dropLast)
theorem undo_row {row : List Int} {M : MS} (h : MOk row M) (hr : row ≠ []) : ∃ e, M.2.2[M.2.2.length - 1]? = some e ∧ MOk row.dropLast (undoM M e) := by
  have hpos := List.length_pos_iff.mpr hr
  have hl := h.ln
  obtain ⟨c, c1, c2⟩ := h.ps (row.length - 1) (by omega)
  rw [← hl] at c1
  refine ⟨_, c1, ⟨?_, ?_, ?_, fun k hk => ?_⟩⟩
  · show re_ (row.take (M.2.2.length - 1)) = _
    rw [hl, List.dropLast_eq_take]
  · show c.Perm _
    rw [List.dropLast_eq_take]; exact c2
  · show M.2.2.dropLast.length = _
    rw [List.length_dropLast, List.length_dropLast, hl]
  · rw [List.length_dropLast] at hk
    obtain ⟨c', d1, d2⟩ := h.ps k (by omega)
    refine ⟨c', ?_, ?_⟩
    · show M.2.2.dropLast[k]? = _
      rw [List.dropLast_eq_take, List.getElem?_take_of_lt (by omega), d1, List.dropLast_eq_take, List.take_take, Nat.min_eq_left (by omega)]
    · rw [List.dropLast_eq_take, List.take_take, Nat.min_eq_left (by omega)]; exact d2
end Rf

namespace Dl
open PySem PySem.Spec L2 Rf
/-! dicts whose keys are pairs of tuples of ints, all values True -/
abbrev K2 := List Int × List Int
def nkI (l : List Int) : NestedKey := .tup (l.map .num)
def nk (k : K2) : NestedKey := .tup [nkI k.1, nkI k.2]
theorem nkL_inj : ∀ {a b : List Int}, a.map NestedKey.num = b.map NestedKey.num → a = b
  | [], [], _ => rfl
  | [], _ :: _, e => by simp at e
  | _ :: _, [], e => by simp at e
  | x :: xs, y :: ys, e => by
    rw [List.map_cons, List.map_cons] at e
    injection e with e1 e2
    injection e1 with e1
    rw [e1, nkL_inj e2]
theorem nkI_inj {a b : List Int} (h : nkI a = nkI b) : a = b := by
  unfold nkI at h
  injection h with h
  exact nkL_inj h
theorem nk_inj {a b : K2} (h : nk a = nk b) : a = b := by
  unfold nk at h
  injection h with h
  injection h with h1 h2
  injection h2 with h2 _
  exact Prod.ext (nkI_inj h1) (nkI_inj h2)
theorem nkI_depth (l : List Int) : (nkI l).depth ≤ 1 := by
  have : ∀ l : List Int, NestedKey.depthAll (l.map .num) = 0 := by
    intro l
    induction l with
    | nil => rfl
    | cons a r ih => simp [NestedKey.depthAll, NestedKey.depth, ih]
  show NestedKey.depth (.tup _) ≤ 1
  rw [NestedKey.depth, this]
  exact Nat.le_refl _
theorem nk_depth (k : K2) : (nk k).depth ≤ 8 := by
  show NestedKey.depth (.tup _) ≤ 8
  have h1 := nkI_depth k.1
  have h2 := nkI_depth k.2
  simp only [NestedKey.depth, NestedKey.depthAll]
  omega
def TupK (H : Hp) (b : Addr) (k : K2) : Prop := ∃ b1 b2, H b = some (.tup [.ref b1, .ref b2]) ∧ H b1 = some (.tup (k.1.map V.int)) ∧ H b2 = some (.tup (k.2.map V.int))
theorem nums_are {h : Heap} : ∀ {ns : List Int} {us : List Value}, Vals (ns.map V.int) us → NestedAll h (ns.map .num) us
  | [], _, .nil => .nil
  | n :: ns, _, .cons r t => by
    rename_i u us
    obtain ⟨tk, e⟩ : ∃ tk, u = Value.int n tk := r
    subst e
    exact .cons (.int n tk) (nums_are t)
section
variable {P : Program} {w : World} {H : Hp} {h : Heap} {b : Addr} {k : K2}
theorem tupI_is {ns : List Int} (ok : HOk P w H h) (e : H b = some (.tup (ns.map V.int))) : NestedIs h (nkI ns) (.ref b) := by
  obtain ⟨_, its, r, o, h1, h2, n, h3⟩ := (show ObjOk P w H h b (.tup (ns.map V.int)) from ok b _ e)
  exact .tup h1 h2 h3 (by simpa using nums_are r)
theorem TupK.is (ok : HOk P w H h) (t : TupK H b k) : (nestedKind P w).is h (nk k) b := by
  obtain ⟨b1, b2, e, e1, e2⟩ := t
  obtain ⟨_, its, r, o, h1, h2, n, h3⟩ := (show ObjOk P w H h b (.tup [.ref b1, .ref b2]) from ok b _ e)
  refine ⟨.tup h1 h2 h3 ?_, nk_depth k⟩
  cases r with
  | cons r1 r =>
    cases r with
    | cons r2 r =>
      cases r
      obtain rfl := (show _ = Value.ref b1 from r1)
      obtain rfl := (show _ = Value.ref b2 from r2)
      exact .cons (tupI_is ok e1) (.cons (tupI_is ok e2) .nil)
end
def enK (x : K2 × Addr) : NestedKey × Addr × Value := (nk x.1, x.2, .bool true)
def DicOk (P : Program) (w : World) (o : Obj) (xs : List (K2 × Addr)) : Prop := o.ExactDict ∧ ∃ es ep, o.data = .dict es ep ∧ es.toList = (xs.map enK).map (entryOfKey (nestedKind P w)) ∧ (xs.map (·.1)).Nodup
def DicO (a : Addr) (o : Obj) : HO := .ext fun h => h.get? a = some o
/-- the key k, at b, is put -/
def putD (xs : List (K2 × Addr)) (k : K2) (b : Addr) : List (K2 × Addr) := if k ∈ xs.map (·.1) then xs else xs ++ [(k, b)]
section
variable {P : Program} {w : World} {H : Hp} {h : Heap} {a b : Addr} {k : K2} {o : Obj} {xs : List (K2 × Addr)}
theorem dic_get (ok : HOk P w H h) (e : H a = some (DicO a o)) : h.get? a = some o := (show ObjOk P w H h a (DicO a o) from ok a _ e).1
theorem nodup_nk (hn : (xs.map (·.1)).Nodup) : ((xs.map enK).map (·.1)).Nodup := by
  have e : (xs.map enK).map (·.1) = (xs.map (·.1)).map nk := by rw [List.map_map, List.map_map]; rfl
  rw [e]
  exact List.Pairwise.map nk (fun a b hab z => hab (nk_inj z)) hn
theorem dic_of (ok : HOk P w H h) (e : H a = some (DicO a o)) (d : DicOk P w o xs) (ht : ∀ x ∈ xs, TupK H x.2 x.1) : h.DictOfH (nestedKind P w) a (xs.map enK) := by
  obtain ⟨hx, es, ep, h1, h2, h3⟩ := d
  refine ⟨o, es, ep, dic_get ok e, hx, h1, h2, fun y hy => ?_, nodup_nk h3⟩
  obtain ⟨x, hx, rfl⟩ := List.mem_map.mp hy
  exact (ht x hx).is ok
theorem dic_new {H' : Hp} {h' : Heap} (hg : h'.get? a = some o) : ObjOk P w H' h' a (DicO a o) := ⟨hg, ⟨o, hg⟩, fun h1 h2 e k => k o e⟩
theorem putAt_self (x : K2 × Addr) (k : K2) : putAt (nk k) (.bool true) (enK x) = enK x := by
  unfold putAt enK
  split <;> rfl
theorem atKey_some (k : K2) (xs : List (K2 × Addr)) : (atKey (xs.map enK) (nk k)).isSome = decide (k ∈ xs.map (·.1)) := by
  unfold atKey
  rw [Option.isSome_map]
  induction xs with
  | nil => rfl
  | cons x r ih =>
    by_cases e : x.1 = k
    · simp [List.find?_cons, enK, e]
    · have e' : ¬ nk x.1 = nk k := fun z => e (nk_inj z)
      have e'' : ¬ k = x.1 := fun z => e z.symm
      simp only [List.map_cons, List.find?_cons]
      rw [show decide ((enK x).1 = nk k) = false from decide_eq_false e']
      simp only [ih, List.mem_cons, e'', false_or]
theorem stored_put (xs : List (K2 × Addr)) (k : K2) (b : Addr) : storedH (xs.map enK) (nk k) b (.bool true) = (putD xs k b).map enK := by
  unfold storedH putD
  rw [atKey_some]
  by_cases hm : k ∈ xs.map (·.1)
  · rw [decide_eq_true hm, if_pos rfl, if_pos hm]
    rw [List.map_map]
    exact List.map_congr_left fun x _ => putAt_self x k
  · rw [decide_eq_false hm, if_neg Bool.false_ne_true, if_neg hm, List.map_append]
    rfl
theorem dicOk_of {h' : Heap} (d : h'.DictOfH (nestedKind P w) a (xs.map enK)) (hn : (xs.map (·.1)).Nodup) : ∃ o, h'.get? a = some o ∧ DicOk P w o xs := by
  obtain ⟨o, es, ep, h1, h2, h3, h4, _, _⟩ := d
  exact ⟨o, h1, h2, es, ep, h3, h4, hn⟩
theorem putD_nodup (hn : (xs.map (·.1)).Nodup) : ((putD xs k b).map (·.1)).Nodup := by
  unfold putD
  by_cases hm : k ∈ xs.map (·.1)
  · rw [if_pos hm]; exact hn
  · rw [if_neg hm, List.map_append]
    exact List.nodup_append.mpr ⟨hn, by simp, fun x hx y hy => by simp at hy; subst hy; exact fun z => hm (z ▸ hx)⟩
end
/-! ### {} -/
def tDNew (P : Program) (w : World) : TE := fun _ H Q => ∀ p o, H p = none → (p == sysModules) = false → DicOk P w o [] → Q (.ref p) (upd H p (DicO p o))
abbrev obE : Obj := { cls := .type "dict", data := .dict #[] }
theorem dicOk_nil {P : Program} {w : World} : DicOk P w obE [] := ⟨⟨rfl, rfl, rfl⟩, #[], 0, rfl, rfl, List.nodup_nil⟩
section
variable {X : Cx} {pos : Pos}
theorem pe_dnew : PE X (.Dict [] [] pos) (tDNew X.prog X.w) := ⟨fun pins s σ H Q I h =>
  wpAny_Dict_empty ⟨.ref s.heap.objs.size, _, I.laid (a := s.heap.objs.size) (o := DicO s.heap.objs.size obE) (t' := s.toks) (fun _ _ q => Heap.get?_push_of_some _ q) (Nat.le_refl _) (dic_new (Heap.get?_push_size _ rfl)), rfl,
    h _ _ (I.hok.fresh (Nat.le_refl _)) (beq_eq_false_iff_ne.mpr (Ne.symm (Nat.ne_of_lt I.big))) dicOk_nil⟩⟩
/-- {k: v} -/
def tDOne (P : Program) (w : World) (tk tv : TE) : TE := fun σ H Q => ∀ p, H p = none → (p == sysModules) = false → tk σ (upd H p (DicO p obE)) fun x H1 => tv σ H1 fun y H2 => H2 p = some (DicO p obE) ∧ y = .bl true ∧ ∃ b k, x = .ref b ∧ TupK H2 b k ∧
  ∀ o, DicOk P w o [(k, b)] → Q (.ref p) (upd H2 p (DicO p o))
theorem pe_done {k v : Expr} {tk tv : TE} (hu : X.A.units + 8 < cLine) (hk : PE X k tk) (hv : PE X v tv) : PE X (.Dict [some k] [v] pos) (tDOne X.prog X.w tk tv) := by
  refine ⟨fun pins s σ H Q I q => ?_⟩
  have hn := I.hok.fresh (Nat.le_refl s.heap.objs.size)
  have hb : (s.heap.objs.size == sysModules) = false := beq_eq_false_iff_ne.mpr (Ne.symm (Nat.ne_of_lt I.big))
  have I1 := I.laid (a := s.heap.objs.size) (o := DicO s.heap.objs.size obE) (h' := s.heap.push obE) (t' := s.toks) (fun _ _ q => Heap.get?_push_of_some _ q) (Nat.le_refl _) (dic_new (Heap.get?_push_size _ rfl))
  have hs : (evalEachOpt [some k] X.env).zip ((evalEach [v] X.env).map fun v => do let x ← v; standAt pos; pure x) = (pairTrees [some k] [v] X.env pos).map fun p => (some p.1, p.2) := zip_pairTrees [some k] [v] X.env pos rfl rfl
  show wpAny _ _ (eval (.Dict [some k] [v] pos) X.env) _ _ _
  rw [arm_eval_Dict, hs, dictDisplay_pairs _ (by intro z; cases z) (by show 1 < 17; decide)]
  refine wpAny_bind (wpAny_standAt (wpAny_bind (wpAny_subDictH (knd := nestedKind X.prog X.w) hu (by show 1 ≤ 15; decide) ?_)))
  refine thn ((pps_cons hk hv pps_nil).run pins _ σ _ (fun ps H2 => match ps with
    | [(x, y)] => H2 s.heap.objs.size = some (DicO s.heap.objs.size obE) ∧ y = .bl true ∧ ∃ b k, x = .ref b ∧ TupK H2 b k ∧ ∀ o, DicOk X.prog X.w o [(k, b)] → Q (.ref s.heap.objs.size) (upd H2 s.heap.objs.size (DicO s.heap.objs.size o))
    | _ => False) I1 (q _ hn hb)) fun ws s2 z => ?_
  obtain ⟨ps, H2, I2, rel, z⟩ := z
  cases rel with
  | nil => exact z.elim
  | @cons p0 q0 _ _ h0 t0 =>
    cases t0 with
    | cons _ _ => exact z.elim
    | nil =>
      obtain ⟨x, y⟩ := p0
      obtain ⟨u1, u2⟩ := q0
      obtain ⟨e, ey, b, k0, ex, ht, q2⟩ := z
      subst ex ey
      obtain rfl : u1 = Value.ref b := h0.1
      obtain rfl : u2 = Value.bool true := h0.2
      have hd0 := dic_of I2.hok e (dicOk_nil (P := X.prog) (w := X.w)) (fun x hx => nomatch hx)
      refine ⟨[(nk k0, b, .bool true)], ⟨rfl, rfl, ht.is I2.hok, trivial⟩, hd0, fun h' tk dd hs => wpAny_pure ?_⟩
      have dd' : h'.DictOfH (nestedKind X.prog X.w) s.heap.objs.size ([(k0, b)].map enK) := dd
      obtain ⟨o, hg, ok⟩ := dicOk_of dd' (by simp)
      exact ⟨.ref s.heap.objs.size, _, d_write I2 (by rw [e]; exact True.intro) hs ⟨o, hg⟩ (dic_new hg), rfl, q2 o ok⟩
/-- d[k] = v -/
def sDPutN (P : Program) (w : World) (td ty tv : TE) : TS := fun D σ H => tv σ H fun v H1 => td σ H1 fun x H2 => ty σ H2 fun y H3 => v = .bl true ∧ ∃ a b o xs k, x = .ref a ∧ y = .ref b ∧ H3 a = some (DicO a o) ∧ DicOk P w o xs ∧ xs.length < 16777216 ∧
  (∀ x ∈ xs, TupK H3 x.2 x.1) ∧ TupK H3 b k ∧ ∀ o', DicOk P w o' (putD xs k b) → D.nx σ (upd H3 a (DicO a o'))
theorem ps_dputN {o i value : Expr} {td ty tv : TE} {pos' : Pos} (hu : X.A.units + 9 < cLine) (ho : PE X o td) (hi : PE X i ty) (hv : PE X value tv) (hs : swapsWith value (some (.Subscript o i pos')) pos.line X.env = pure false := by rfl) :
    PS X (.Assign [.Subscript o i pos'] value pos) (sDPutN X.prog X.w td ty tv) := by
  refine ⟨fun pins s σ H D I h => ?_⟩
  refine wpAny_Assign_Subscript (thn (hv.run pins s σ H _ I h) fun r s1 ⟨v, H1, I1, rv, q1⟩ => thn (ho.run pins s1 σ H1 _ I1 q1) fun u s2 ⟨x, H2, I2, rx, q2⟩ => thn (hi.run pins s2 σ H2 _ I2 q2) fun iv s3 ⟨y, H3, I3, ry, ev, a, b, ob, xs, k, ex, ey, e, d, hl, ht, hk, q3⟩ => ?_) hs
  subst ex ey ev
  obtain rfl : u = Value.ref a := rx
  obtain rfl : iv = Value.ref b := ry
  obtain rfl : r = Value.bool true := rv
  have dd := dic_of I3.hok e d ht
  refine wpAny_setItem_heap (knd := nestedKind X.prog X.w) (hsz := by rw [List.length_map, sizeLine_eq]; omega) (show X.A.units + 1 + 8 < cLine by omega) (hk.is I3.hok) dd fun h' dd' hs => ?_
  rw [stored_put] at dd'
  obtain ⟨o', hg, ok⟩ := dicOk_of dd' (putD_nodup d.2.choose_spec.choose_spec.2.2)
  exact ⟨σ, _, d_write I3 (by rw [e]; exact True.intro) hs ⟨o', hg⟩ (dic_new hg), q3 o' ok⟩
end
/-! ### for key in d -/
def Itk2 (d : Addr) (o : Obj) (xs : List (K2 × Addr)) : It :=
  ⟨fun i H => H d = some (DicO d o) ∧ i < xs.length, fun i H x H' => H' = H ∧ ∃ p, xs[i]? = some p ∧ x = .ref p.2, fun i H => H d = some (DicO d o) ∧ xs.length ≤ i⟩
section
variable {P : Program} {w : World} {K : PySem.W.Frag} {tg : Expr} {d : Addr} {o : Obj} {es : Array DictEntry} {ep : Nat} {xs : List (K2 × Addr)}
theorem turn_keys2 (it : Addr) (hod : o.data = .dict es ep) (he : es.toList = (xs.map enK).map (entryOfKey (nestedKind P w))) : L2.Turn P w K tg (Itk2 d o xs) [it] it (fun i h => h.IsKeyIter it d i xs.length ep) where
  mem := by simp
  obj := fun i h st b hb => by
    have e : b = it := by simpa using hb
    subst e
    obtain ⟨oi, e, c, dd⟩ := st
    exact ⟨oi, e, fun v z => by rw [dd] at z; cases z⟩
  keep := fun i h h' st k => st.at fun oi e => k it (by simp) oi e
  item := by
    intro X hP hw hK hc i pins s σ H E I hf st hg
    subst hP hw hK
    obtain ⟨hd, hi⟩ := hg
    obtain ⟨f0, f1, f2, f3, f4, f5⟩ := hf it (by simp)
    have hgd := dic_get I.hok hd
    obtain ⟨p, hp⟩ : ∃ p, xs[i]? = some p := ⟨xs[i], List.getElem?_eq_getElem hi⟩
    have hsz : es.size = xs.length := by rw [← Array.length_toList, he, List.length_map, List.length_map]
    have hen : es[i]? = some (entryOfKey (nestedKind X.prog X.w) (enK p)) := by rw [← Array.getElem?_toList, he, List.getElem?_map, List.getElem?_map, hp]; rfl
    refine next_key_item st hgd hod hsz hen fun h' st' sb => ?_
    have I1 : Inv X pins σ H { s with heap := h' } := I.turned (t' := s.toks) (fun b ob hb e => (sb.2 b hb).trans e) f0 f1 f3 f4 f5
    obtain ⟨oi, e, c, dd⟩ := id st'
    exact ⟨_, rfl, go_of (s := { s with heap := h' }) e c dd (by decide) ⟨.ref p.2, H, I1, rfl, ⟨rfl, p, hp, rfl⟩, st', fun b hb => (hf b hb).1⟩⟩
  done := by
    intro X hP hw hK hc i pins s σ H E I hf st hg
    subst hP hw hK
    obtain ⟨hd, hi⟩ := hg
    obtain ⟨f0, f1, f2, f3, f4, f5⟩ := hf it (by simp)
    have hgd := dic_get I.hok hd
    have hsz : es.size = xs.length := by rw [← Array.length_toList, he, List.length_map, List.length_map]
    exact next_key_end (I.ok.hd hc) st hgd hod hsz hi fun h' eb => ⟨rfl, I.turned (t' := s.toks) (fun b ob hb e => eb b ob hb e) f0 f1 f3 f4 f5⟩
  self := fun A i s Q E st h => wpAny_pyIter_keyiter st h
end
def iKeys2 (P : Program) (w : World) (td : TE) : TI := fun σ H R => td σ H fun x H1 => ∃ d o xs, x = .ref d ∧ (d == sysModules) = false ∧ H1 d = some (DicO d o) ∧ DicOk P w o xs ∧ R (Itk2 d o xs) H1
theorem pi_keys2 {X : Cx} {tg e : Expr} {td : TE} (he : PE X e td) : PI X tg e (iKeys2 X.prog X.w td) := by
  refine ⟨fun pins s σ H R I h => ?_⟩
  refine thn (he.run pins s σ H _ I h) fun u s1 ⟨x, H1, I1, rx, d, o, xs, ex, hs, hd, ok, q⟩ => ?_
  subst ex
  obtain rfl : u = Value.ref d := rx
  obtain ⟨hx, es, ep, hdt, hes, hn⟩ := ok
  have hsz : es.size = xs.length := by rw [← Array.length_toList, hes, List.length_map, List.length_map]
  refine iter_keys hs (dic_get I1.hok hd) hx hdt (pi_one (tk := s1.toks) I1 _ (turn_keys2 _ hdt hes) ⟨_, Heap.get?_push_size _ rfl, rfl, ?_⟩ q)
  rw [hsz] <;> rfl
/-! the same, the program named -/
section
variable {X : Cx} {P : Program} {w : World} {pos : Pos}
theorem pe_dnewK2 (hP : X.prog = P) (hw : X.w = w) : PE X (.Dict [] [] pos) (tDNew P w) := by subst hP hw; exact pe_dnew
theorem pe_doneK {k v : Expr} {tk tv : TE} (hP : X.prog = P) (hw : X.w = w) (hu : X.A.units + 65 < cLine) (hk : PE X k tk) (hv : PE X v tv) : PE X (.Dict [some k] [v] pos) (tDOne P w tk tv) := by subst hP hw; exact pe_done (by omega) hk hv
theorem ps_dputK {o i value : Expr} {td ty tv : TE} {pos' : Pos} (hP : X.prog = P) (hw : X.w = w) (hu : X.A.units + 65 < cLine) (ho : PE X o td) (hi : PE X i ty) (hv : PE X value tv) (hs : swapsWith value (some (.Subscript o i pos')) pos.line X.env = pure false := by rfl) :
    PS X (.Assign [.Subscript o i pos'] value pos) (sDPutN P w td ty tv) := by subst hP hw; exact ps_dputN (by omega) ho hi hv hs
theorem pi_keysK {tg e : Expr} {td : TE} (hP : X.prog = P) (hw : X.w = w) (he : PE X e td) : PI X tg e (iKeys2 P w td) := by subst hP hw; exact pi_keys2 he
end
end Dl

namespace Dl
open PySem PySem.Spec L2 Rf PyProof.Rows PySem.W
/-! ### sorted(rows), rows a list of lists of ints -/
def srtR (ls : List (List Int)) : List (List Int) := ls.mergeSort fun a b => decide (a ≤ b)
def rSrtR (K : PySem.W.Frag) : List V → Hp → VK → Prop := fun vs H Q => ∃ (a : Addr) (xs : List V) (ls : List (List Int)) (Pd : V → List Int → Prop), vs = [V.ref a] ∧ SqL K H a xs ∧ DpAll K H xs (ls.map dI) ∧ EachIs Pd xs ls ∧ (∀ x ∈ xs, ∃ t, x = V.ref t) ∧
  ∀ p ys, H p = none → EachIs Pd ys (srtR ls) → Q (.ref p) (upd H p (.lst ys))
section
variable {X : Cx}
theorem each_refs {Pd : V → List Int → Prop} : ∀ {xs : List V} {us : List Value} {ls : List (List Int)}, Vals xs us → (∀ x ∈ xs, ∃ t, x = V.ref t) → EachIs Pd xs ls → EachIs (fun u l => ∃ t, u = Value.ref t ∧ Pd (V.ref t) l) us ls
  | _, _, _, .nil, _, .nil => .nil
  | x :: _, u :: _, _ :: _, .cons r t, hr, .cons e es => by
    obtain ⟨a, rfl⟩ := hr x List.mem_cons_self
    obtain rfl : u = Value.ref a := r
    exact .cons ⟨a, rfl, e⟩ (each_refs t (fun y hy => hr y (List.mem_cons_of_mem _ hy)) es)
theorem refs_each {Pd : V → List Int → Prop} : ∀ {us : List Value} {ls : List (List Int)}, EachIs (fun u l => ∃ t, u = Value.ref t ∧ Pd (V.ref t) l) us ls → ∃ ys, Vals ys us ∧ EachIs Pd ys ls
  | _, _, .nil => ⟨[], .nil, .nil⟩
  | _, _, .cons ⟨t, e, h⟩ es => by
    subst e
    obtain ⟨ys, h1, h2⟩ := refs_each es
    exact ⟨V.ref t :: ys, .cons rfl h1, .cons h h2⟩
theorem depth_dI (l : List Int) : (dI l).depth ≤ 1 := by
  show PyData.depth (.list _) ≤ 1
  rw [PyData.depth, depth_ints]
  exact Nat.le_refl _
theorem cr_srtR (hu : X.A.units + 64 < cLine) : CallR X (.builtin "sorted") (rSrtR X.K) := by
  intro pins s σ H vs us Q I r h
  obtain ⟨a, xs, ls, Pd, rfl, hs, hd, he, hr, q⟩ := h
  obtain ⟨its, rv, hl, hz⟩ := I.list hs
  rw [Vals.ref1 r]
  obtain ⟨as, rd⟩ := Dp.readsAll I _ _ _ hd rv
  have er := readsAll_each (h := s.heap) dI rd
  have hlen : ls.length = xs.length := (he.length).symm
  refine sorted_data (R := fun u l => ∃ t, u = Value.ref t ∧ Pd (V.ref t) l) (enc := dI) (bs := ls) hl.isList (each_refs rv hr he) er (AllAlike.of fun b b' => by show alikeAll _ _ = true; exact alike_ints b b') (Sortable.others fun b => ⟨(fun z => by cases z), (fun xs z => by cases z)⟩) (by rw [hlen]; exact hz)
    (fun b _ => by have := depth_dI b; omega) fun out ho eo => ?_
  have ee : (ls.mergeSort (dataLe false dI)) = srtR ls := by
    unfold srtR
    rw [show dataLe false dI = fun p q => decide (p ≤ q) from dataLe_rows (fun b : List Int => b)]
  rw [ee] at eo
  obtain ⟨ys, h1, h2⟩ := refs_each eo
  obtain ⟨ep, hep⟩ := PyProof.Rows.sortedAll_at s.heap its out.toArray
  have hys : ys.length ≤ sizeLine := by
    rw [h1.length, ho, hlen]
    exact hz
  exact ⟨.ref _, upd H (s.heap.objs.size + 1) (.lst ys), I.laid (t' := s.toks) (fun _ _ => PyProof.Rows.sortedAll_old) (Nat.le_succ _) ⟨hys, out, ep, h1, hep⟩, rfl, q _ ys (I.hok.fresh (Nat.le_succ _)) h2⟩
end
/-! ### sorted(t), t a tuple of ints -/
section
variable {prog : Program} {w : World} {A : Around} {E : Value → Shared → Prop} {s : Shared}
theorem collect_tup {l : Addr} {us : List Value} {Q : List Value → Shared → Prop} (ht : s.heap.IsTuple l us.toArray)
    (q : Q us { s with heap := (s.heap.push (seqObj "list" #[] 0)).update s.heap.objs.size (Obj.mapSeq (· ++ us.toArray)) }) (hz : us.length ≤ sizeLine) : wpAny (model prog w) A (collect (.ref l)) Q E s := by
  obtain ⟨ob, g1, g2, n, g3⟩ := id ht
  unfold collect
  refine wpAny_bind (wpAny_runValue (codeAny_builtin entry_proto_collect' ?_))
  show wpAny _ _ (do again (.builtin "list.__iadd__" ⟨[← newList [], .ref l], []⟩)) _ _ s
  refine wpAny_bind (wpAny_newList (wpAny_pure ⟨Code.quiet_builtin _ (by decide +kernel), codeAny_builtin entry_list_iadd' ?_⟩))
  show wpAny _ _ (Builtin.List.listExtendWith (.ref s.heap.objs.size) (.ref l) (.ref s.heap.objs.size)) _ _ { s with heap := s.heap.push (seqObj "list" #[] 0) }
  unfold Builtin.List.listExtendWith
  have g1' : (s.heap.push (seqObj "list" #[] 0)).get? l = some ob := Heap.get?_push_of_some _ g1
  refine wpAny_bind (wpAny_typeOf (T := "tuple") ⟨ob, g1', g2⟩ ?_)
  rw [if_pos (by first | rfl | decide | simp)]
  refine wpAny_bind (listItems_at g1' g3 ?_)
  refine wpAny_bind (listItems_at (xs := #[]) (n := 0) (Heap.get?_push_size _ rfl) rfl ?_)
  rw [if_neg (by simp)]
  refine wpAny_bind (listUpdate_at (xs := #[]) (n := 0) (Heap.get?_push_size _ rfl) rfl ?_ (Nat.zero_le _) (by show (#[] ++ us.toArray).size ≤ sizeLine + 1; simp only [Array.size_append, List.size_toArray, List.length_nil]; omega))
  refine wpAny_pure ?_
  show wpAny (model prog w) A (load s.heap.objs.size >>= _) Q E { s with heap := (s.heap.push (seqObj "list" #[] 0)).update s.heap.objs.size (Obj.mapSeq (· ++ us.toArray)) }
  refine wpAny_bind (wpAny_load (get?_update_seq (Heap.get?_push_size _ rfl) _) ?_)
  show wpAny _ _ (pure ((#[] : Array Value) ++ us.toArray).toList) Q E _
  rw [show ((#[] : Array Value) ++ us.toArray).toList = us by simp]
  exact wpAny_pure q
theorem sorted_tupI {l : Addr} {us : List Value} {ms : List Int} {Q : Value → Shared → Prop} (ht : s.heap.IsTuple l us.toArray) (hi : IntsAre us ms) (hz : us.length ≤ sizeLine)
    (k : ∀ (out : List Value) (ns : List Int), IntsAre out ns → ns.Perm ms → ns.Pairwise (· ≤ ·) → Q (.ref (s.heap.objs.size + 1)) { s with heap := sortedAll s.heap us out.toArray }) :
    wpAny (model prog w) A (call (.builtin "sorted") [.ref l]) Q E s := by
  refine Calls.call_function_entry kind_sorted plain_sorted entry_sorted (args_sorted1 (.ref l)) ?_
  unfold Builtin.«sorted»
  refine wpAny_bind (m := checkCount "sorted" 1 1 _) (wpAny_pure ?_)
  refine wpAny_bind (collect_tup ht ?_ hz)
  refine wpAny_bind (wpAny_newList ?_ hz)
  have e1 : ((s.heap.push (seqObj "list" #[] 0)).update s.heap.objs.size (Obj.mapSeq (· ++ us.toArray))).objs.size = s.heap.objs.size + 1 := by rw [Heap.size_update, size_push']
  show wpAny _ _ _ _ _ { s with heap := copyHeap s.heap us }
  rw [e1]
  refine wpAny_bind (wpAny_holding (wpAny_call_entry slot_list_sort ⟨_, copyHeap_at s.heap us, rfl⟩ entry_list_sort
    (SrtO.list_sort_ord SrtO.swo_int (copyHeap_at s.heap us) hz (fun h2 => SrtO.ints_sortable hi h2) fun out h1 h2 => ⟨_, rfl, ?_⟩) (args_list_sort _)))
  obtain ⟨k1, k2, k3⟩ := SrtO.ints_out hi h1 h2
  exact wpAny_pure ⟨_, rfl, k out _ k1 k2 k3⟩
end
def rSrtT (K : PySem.W.Frag) : List V → Hp → VK → Prop := fun vs H Q => ∃ (a : Addr) (ns : List Int), vs = [V.ref a] ∧ SqT K H a (ns.map V.int) ∧ ∀ (ms : List Int) (p : Addr), ms.Perm ns → ms.Pairwise (· ≤ ·) → H p = none → Q (.ref p) (upd H p (.lst (ms.map V.int)))
theorem cr_srtT {X : Cx} : CallR X (.builtin "sorted") (rSrtT X.K) := by
  intro pins s σ H vs us Q I r h
  obtain ⟨a, ns, rfl, hs, q⟩ := h
  obtain ⟨its, rv, hl, hz⟩ := I.tuple hs
  rw [Vals.ref1 r]
  have hi := rv.ints
  refine sorted_tupI hl hi (by rw [← rv.length]; exact hz) fun out ms k1 k2 k3 => ?_
  obtain ⟨ep, he'⟩ := PyProof.Rows.sortedAll_at s.heap its out.toArray
  have hlen : (ms.map V.int).length ≤ sizeLine := by
    rw [List.length_map, k2.length_eq]
    rw [List.length_map] at hz
    exact hz
  exact ⟨.ref _, upd H (s.heap.objs.size + 1) (.lst (ms.map V.int)), I.laid (t' := s.toks) (fun _ _ => PyProof.Rows.sortedAll_old) (Nat.le_succ _) ⟨hlen, out, ep, vals_of_ints k1, he'⟩, rfl, q _ _ k2 k3 (I.hok.fresh (Nat.le_succ _))⟩
end Dl

namespace Dl
open PySem PySem.Spec L2 Rf
/-! ### calls -/
section
variable {K : PySem.W.Frag}
theorem dvs_each {G : Hp} : ∀ {xs : List V} {ls : List (List Int)}, Dvs G xs (ls.map dI) → PySem.W.EachIs (fun x l => Dv G x (dI l)) xs ls ∧ ∀ x ∈ xs, ∃ t, x = V.ref t
  | _, [], h => by cases h; exact ⟨.nil, fun x hx => nomatch hx⟩
  | _, l :: ls, h => by
    cases h with
    | cons h1 h2 =>
      obtain ⟨a, b⟩ := dvs_each h2
      refine ⟨.cons h1 a, fun x hx => ?_⟩
      rcases List.mem_cons.mp hx with e | hx
      · subst e
        cases h1 with
        | lst _ _ => exact ⟨_, rfl⟩
      · exact b x hx
theorem each_dvs {G : Hp} : ∀ {xs : List V} {ls : List (List Int)}, PySem.W.EachIs (fun x l => Dv G x (dI l)) xs ls → Dvs G xs (ls.map dI)
  | _, _, .nil => .nil
  | _, _, .cons h t => .cons h (each_dvs t)
theorem rcn_srtR {ls : List (List Int)} : RCN (rSrtR K) [.list (ls.map dI)] ((srtR ls).map dI) := fun G H vs e h Q q => by
  cases h with
  | cons h1 h2 =>
    cases h2
    cases h1 with
    | @lst a xs _ k1 k2 =>
      obtain ⟨e1, e2⟩ := dvs_each k2
      refine ⟨a, xs, ls, fun x l => Dv G x (dI l), rfl, SqL.of (e _ _ k1), dvs_dp _ _ (k2.up e), e1, e2, fun p ys hp ey => ?_⟩
      exact q p ys G _ (.hid e hp) hp (e.free hp) upd_same (each_dvs ey)
theorem rcn_srtT {ns : List Int} : RCN (rSrtT K) [.tuple (ns.map PyData.int)] ((srtI ns).map PyData.int) := fun G H vs e h Q q => by
  cases h with
  | cons h1 h2 =>
    cases h2
    cases h1 with
    | @tup a xs _ k1 k2 =>
      have := Dvs.ints _ _ k2
      subst this
      refine ⟨a, ns, rfl, SqT.of (e _ _ k1), fun ms p hp hs hn => ?_⟩
      have em : ms = srtI ns := srtI_uniq (hs.imp fun {a b} z => leI_iff.mpr z) hp
      subst em
      exact q p _ G _ (.hid e hn) hn (e.free hn) upd_same (dvs_ints _)
theorem inV_int {i : Int} : ∀ ns : List Int, inV (.int i) (ns.map V.int) = decide (i ∈ ns)
  | [] => rfl
  | n :: ns => by
    show (eqV (.int n) (.int i) || inV (.int i) (ns.map V.int)) = _
    rw [inV_int ns]
    have : eqV (.int n) (.int i) = decide (i = n) := by
      show (_ : Bool) = _
      by_cases h : i = n
      · subst h; simp [eqV]
      · have h' : ¬ n = i := fun z => h z.symm
        simp [eqV, h, h']
    rw [this]
    by_cases h : i = n <;> simp [h]
theorem flat_ints : ∀ ns : List Int, (ns.map V.int).all flatV = true
  | [] => rfl
  | n :: ns => by rw [List.map_cons, List.all_cons, flat_ints ns]; rfl
theorem rd_notInT {i : Int} {ns : List Int} : RD (rIn K true) (.int i) (.tuple (ns.map PyData.int)) (.bool (!decide (i ∈ ns))) := fun G H v w e h1 h2 Q q => by
  cases h1
  cases h2 with
  | @tup a xs _ k1 k2 =>
    have := Dvs.ints _ _ k2
    subst this
    refine ⟨a, _, rfl, .inr (SqT.of (e _ _ k1)), rfl, flat_ints ns, ?_⟩
    rw [inV_int]
    exact q _ G H (.refl e) (.bl _)
/-! ### enumerate -/
theorem wk_enum {G : Hp} {a : Addr} {xs : List V} {ds : List PyData} (h : G a = some (.lst xs)) (hd : Dvs G xs ds) : Wk (Ite K a) G (ds.zipIdx.map fun p => .tuple [.int (p.2 : Nat), p.1]) where
  go := fun i H s hi => by
    rw [List.length_map, List.length_zipIdx] at hi
    have hx : i < xs.length := by rw [hd.len]; exact hi
    exact ⟨xs, xs[i], SqL.of (s _ _ h), List.getElem?_eq_getElem hx⟩
  yl := fun i d H x H' s q y G1 s1 s2 => by
    obtain ⟨T, x0, rfl, hT, rfl, y⟩ := y
    rw [List.getElem?_map, List.getElem?_zipIdx] at q
    cases hq : ds[i]? with
    | none => rw [hq] at q; cases q
    | some d0 =>
      rw [hq] at q
      cases q
      obtain ⟨v, hv, hdv⟩ := hd.get hq
      have := y xs (SqL.of (s _ _ h))
      rw [hv] at this
      obtain rfl : v = x0 := Option.some.inj this
      refine ⟨upd G1 T (.tup [.int (i : Nat), v]), .new s2 hT, ?_⟩
      have e : Same G1 (upd G1 T (.tup [.int (i : Nat), v])) := same_new (s2.free hT)
      have := Dv.tup (H := upd G1 T (.tup [.int (i : Nat), v])) upd_same (.cons (.int (i : Nat)) (.cons (hdv.up (s1.trans e)) .nil))
      simpa using this
  st := fun H s => ⟨xs, SqL.of (s _ _ h), by rw [List.length_map, List.length_zipIdx, hd.len]; exact Nat.le_refl _⟩
theorem ei_enum {ρ : Rho} {ta : TA} {α : Type} {xs : List α} {en : α → PyData} (h : EA ta ρ [.list (xs.map en)]) : EI (iEnum K ta) ρ (xs.zipIdx.map fun p => .tuple [.int (p.2 : Nat), en p.1]) := fun G H σ w R r => h G H σ w _ fun vs G1 H1 x1 hd => by
  cases hd with
  | cons h1 h2 =>
    cases h2
    cases h1 with
    | lst k1 k2 =>
      refine ⟨_, _, rfl, SqL.of (x1.e _ _ k1), r _ G1 H1 x1 ?_⟩
      have := wk_enum (K := K) k1 k2
      have e : ((xs.map en).zipIdx.map fun p => PyData.tuple [.int (p.2 : Nat), p.1]) = xs.zipIdx.map fun p => .tuple [.int (p.2 : Nat), en p.1] := by
        rw [List.zipIdx_map, List.map_map]; rfl
      rw [← e]; exact this
end
/-! ### the dict as a slot -/
def k2D (k : K2) : PyData := .tuple [.tuple (k.1.map PyData.int), .tuple (k.2.map PyData.int)]
theorem dv_k2 {H : Hp} {b : Addr} {k : K2} (h : Dv H (.ref b) (k2D k)) : TupK H b k := by
  cases h with
  | tup h1 h2 =>
    cases h2 with
    | cons a b =>
      cases b with
      | cons b c =>
        cases c
        cases a with
        | tup a1 a2 =>
          cases b with
          | tup b1 b2 =>
            have e1 := Dvs.ints _ _ a2
            have e2 := Dvs.ints _ _ b2
            subst e1 e2
            exact ⟨_, _, h1, a1, b1⟩
theorem dv_ref2 {H : Hp} {v : V} {k : K2} (h : Dv H v (k2D k)) : ∃ b, v = .ref b := by
  cases h with
  | tup _ _ => exact ⟨_, rfl⟩
def DictR (P : Program) (w : World) (a : Addr) (o : Obj) (ks : List K2) : Res := ⟨fun v G h => v = .ref a ∧ (a == sysModules) = false ∧ h = one a (DicO a o) ∧ ∃ xs : List (K2 × Addr), xs.map (·.1) = ks ∧ DicOk P w o xs ∧ ∀ x ∈ xs, Dv G (.ref x.2) (k2D x.1),
  fun v G G' h e z => ⟨z.1, z.2.1, z.2.2.1, let ⟨xs, a, b, c⟩ := z.2.2.2; ⟨xs, a, b, fun x hx => (c x hx).up e⟩⟩⟩
def putL (ks : List K2) (k : K2) : List K2 := if k ∈ ks then ks else ks ++ [k]
theorem putD_keys {xs : List (K2 × Addr)} {k : K2} {b : Addr} : (putD xs k b).map (·.1) = putL (xs.map (·.1)) k := by
  unfold putD putL
  by_cases h : k ∈ xs.map (·.1)
  · rw [if_pos h, if_pos h]
  · rw [if_neg h, if_neg h, List.map_append]; rfl
section
variable {Pv : Addr → Prop} {G0 H0 G H : Hp} {σ : St} {ρ : Rho} {i j : Nat} {P : Program} {w : World} {a : Addr} {o : Obj} {ks : List K2}
theorem Sta.newPrv {p : Addr} {z : HO} {R : Res} (s : Sta Pv G0 H0 G H σ ρ) (hp : H p = none) (hR : R.inv (.ref p) G (one p z)) : Sta Pv G0 H0 G (upd H p z) (σ.set i (some (.ref p))) (ρ.set i (.prv R)) := by
  obtain ⟨fm, vw, hs, pr⟩ := s
  have x : Gr G H G (upd H p z) := .hid fm.e hp
  refine Sta.put (hs := hs) (h := one p z) (fm.grow x) (vw.grow x) (pr.grow x) (fun d e => by cases e) (fun ds e => by cases e) (fun R' e => by cases e; exact hR) (fun b y q => ?_) (fun k b hk q => ?_)
  · obtain ⟨rfl, rfl⟩ := one_some q
    refine ⟨upd_same, fm.e.free hp, .inr ?_⟩
    cases e : H0 b with
    | none => rfl
    | some y => exact absurd hp (fm.k b (by rw [e]; exact Option.some_ne_none _))
  · have e := one_ne q
    subst e
    cases e : hs k b with
    | none => rfl
    | some y => have := (pr.hi k b y e).1; rw [hp] at this; cases this
theorem Sta.dict (s : Sta Pv G0 H0 G H σ ρ) (q : ρ[i]? = some (Sl.prv (DictR P w a o ks))) : σ[i]? = some (some (.ref a)) ∧ (a == sysModules) = false ∧ H a = some (DicO a o) ∧ G a = none ∧ ∃ xs : List (K2 × Addr), xs.map (·.1) = ks ∧ DicOk P w o xs ∧ (∀ x ∈ xs, Dv G (.ref x.2) (k2D x.1)) ∧
    ∀ o' xs', DicOk P w o' xs' → (∀ x ∈ xs', Dv G (.ref x.2) (k2D x.1)) → Sta Pv G0 H0 G (upd H a (DicO a o')) σ (ρ.set i (.prv (DictR P w a o' (xs'.map (·.1))))) := by
  obtain ⟨v, h, hv, ⟨rfl, hs, rfl, xs, e1, e2, e3⟩, sub, inG, fin⟩ := s.res q
  have gn : G a = none := inG a (by rw [one_same]; exact Option.some_ne_none _)
  refine ⟨hv, hs, sub _ _ one_same, gn, xs, e1, e2, e3, fun o' xs' d1 d2 => ?_⟩
  refine fin G (upd H a (DicO a o')) (one a (DicO a o')) (DictR P w a o' (xs'.map (·.1))) ⟨.refl _, fun b y np e => ?_, fun b e => ?_, fun b y e => ?_, fun _ z _ => z⟩ ⟨rfl, hs, rfl, xs', rfl, d1, d2⟩ (fun b z => .inl ?_) (fun b y z => ?_) (fun b z => ?_)
  · have hb : b ≠ a := fun z => np (by rw [z, one_same]; exact Option.some_ne_none _)
    rw [upd_ne hb]; exact e
  · by_cases hb : b = a
    · rw [hb, upd_same]; exact Option.some_ne_none _
    · rw [upd_ne hb]; exact e
  · have hb : b ≠ a := fun z => by rw [z, gn] at e; cases e
    rw [upd_ne hb]; exact s.fm.e b y e
  · rw [one_ne z, one_same]; exact Option.some_ne_none _
  · obtain ⟨rfl, rfl⟩ := one_some z; exact upd_same
  · rw [one_ne z]; exact gn
/-- i gets what j has -/
theorem Sta.move {R : Res} (s : Sta Pv G0 H0 G H σ ρ) (q : ρ[j]? = some (Sl.prv R)) : ∃ v, σ[j]? = some (some v) ∧ Sta Pv G0 H0 G H (σ.set i (some v)) ((ρ.set j .un).set i (.prv R)) := by
  obtain ⟨fm, vw, hs, p⟩ := s
  obtain ⟨v, hv, hR⟩ := p.pv j R q
  refine ⟨v, hv, ?_⟩
  have vw' : Vw G H σ (ρ.set j .un) := ⟨vw.e, by rw [List.length_set]; exact vw.ln, fun k d e => by
    rcases get_set_dat e with ⟨_, z⟩ | ⟨_, e⟩
    · cases z
    · exact vw.dt k d e⟩
  have p' : Pri Pv H0 G H σ (ρ.set j .un) (fun k => if j = k then (fun _ => none) else hs k) := by
    refine ⟨fun k ds e => ?_, fun k R e => ?_, fun k a o e => ?_, fun k l a hkl e => ?_⟩
    · rcases get_set_dat e with ⟨_, z⟩ | ⟨hk, e⟩
      · cases z
      · obtain ⟨o, xs, a1, a2, a3, a4⟩ := p.ow k ds e
        exact ⟨o, xs, a1, by show (if j = k then _ else _) = _; rw [if_neg hk]; exact a2, a3, a4⟩
    · rcases get_set_dat e with ⟨_, z⟩ | ⟨hk, e⟩
      · cases z
      · obtain ⟨v, a1, a2⟩ := p.pv k R e
        exact ⟨v, a1, by show R.inv v G (if j = k then _ else _); rw [if_neg hk]; exact a2⟩
    · have e : (if j = k then (fun _ => none : Hp) else hs k) a = some o := e
      by_cases hk : j = k
      · rw [if_pos hk] at e; cases e
      · rw [if_neg hk] at e; exact p.hi k a o e
    · have e : (if j = k then (fun _ => none : Hp) else hs k) a ≠ none := e
      show (if j = l then (fun _ => none : Hp) else hs l) a = none
      by_cases hl : j = l
      · rw [if_pos hl]
      · rw [if_neg hl]
        by_cases hk : j = k
        · rw [if_pos hk] at e; exact absurd rfl e
        · rw [if_neg hk] at e; exact p.dj k l a hkl e
  refine Sta.put (h := hs j) fm vw' p' (fun d e => by cases e) (fun ds e => by cases e) (fun R' e => by cases e; exact hR) (fun b y e => p.hi j b y e) (fun k b hk e => ?_)
  show (if j = k then (fun _ => none : Hp) else hs k) b = none
  by_cases hj : j = k
  · rw [if_pos hj]
  · rw [if_neg hj]; exact p.dj j k b hj e
end
section
variable {E : XK} {ρ : Rho} {i j : Nat} {P : Program} {w : World} {a : Addr} {o : Obj} {ks : List K2} {Po : Out → Prop} {K : PySem.W.Frag} {u : TS}
theorem so_asgD0 (hp : ∀ a o, Po (.nxt (ρ.set i (.prv (DictR P w a o []))))) : SO E (tAsg (tDNew P w) (gName i)) ρ Po := fun Pv G0 H0 G H σ D s k =>
  fun p o hn hs ok => k.nx _ _ G _ (hp p o) (.refl _) (s.newPrv hn ⟨rfl, hs, rfl, [], rfl, ok, fun x hx => nomatch hx⟩)
theorem sq_asgD0 (hp : ∀ a o, SO E u (ρ.set i (.prv (DictR P w a o []))) Po) : SO E (tSeq (tAsg (tDNew P w) (gName i)) u) ρ Po := so_seq (so_asgD0 hp)
theorem so_asgD1 {tk tv : TE} {k0 : K2} (hk : ED tk ρ (k2D k0)) (hv : ED tv ρ (.bool true)) (hp : ∀ a o, Po (.nxt (ρ.set i (.prv (DictR P w a o [k0]))))) : SO E (tAsg (tDOne P w tk tv) (gName i)) ρ Po := fun Pv G0 H0 G H σ D s k =>
  fun p hn hs => by
    have s0 : Sta Pv G0 H0 G (upd H p (DicO p obE)) σ ρ := s.grow (.hid s.fm.e hn)
    refine hk G _ σ s0.vw _ fun x G1 H1 x1 d1 => hv G1 H1 σ (s0.grow x1).vw _ fun y G2 H2 x2 d2 => ?_
    cases d2
    obtain ⟨b, rfl⟩ := dv_ref2 d1
    have hp2 : H2 p = some (DicO p obE) := x2.h _ _ (x1.h _ _ upd_same)
    have x12 := x1.trans x2
    have gp : G2 p = none := x12.f p (s.fm.e.free hn) (by rw [upd_same]; exact Option.some_ne_none _)
    have d2 := d1.up x2.g
    refine ⟨hp2, rfl, b, k0, rfl, dv_k2 (d2.up x2.e), fun o ok => ?_⟩
    refine k.nx _ _ G2 _ (hp p o) x12.g ?_
    -- the state before the dict was made, grown to G2
    obtain ⟨fm, vw, hs', pr⟩ := s
    have g2 : Gr G H G2 (upd H2 p (DicO p o)) := ⟨x12.g, fun c y e => by
        have hc : c ≠ p := fun z => by rw [z, hn] at e; cases e
        rw [upd_ne hc]
        exact x12.h c y (by rw [upd_ne hc]; exact e), fun c y e => by
        have hc : c ≠ p := fun z => by rw [z, gp] at e; cases e
        rw [upd_ne hc]; exact x12.e c y e, fun c e r => by
        refine x12.f c e ?_
        by_cases hc : c = p
        · rw [hc, upd_same]; exact Option.some_ne_none _
        · rw [upd_ne hc]; exact r⟩
    refine Sta.put (hs := hs') (h := one p (DicO p o)) (fm.grow g2) (vw.grow g2) (pr.grow g2) (fun d e => by cases e) (fun ds e => by cases e) (fun R' e => by cases e; exact ⟨rfl, hs, rfl, [(k0, b)], rfl, ok, fun x hx => by cases List.mem_singleton.mp hx; exact d2⟩) (fun c y q => ?_) (fun l c hk q => ?_)
    · obtain ⟨rfl, rfl⟩ := one_some q
      refine ⟨upd_same, gp, .inr ?_⟩
      cases e : H0 c with
      | none => rfl
      | some y => exact absurd hn (fm.k c (by rw [e]; exact Option.some_ne_none _))
    · have e := one_ne q
      subst e
      cases e : hs' l c with
      | none => rfl
      | some y => have := (pr.hi l c y e).1; rw [hn] at this; cases this
theorem sq_asgD1 {tk tv : TE} {k0 : K2} (hk : ED tk ρ (k2D k0)) (hv : ED tv ρ (.bool true)) (hp : ∀ a o, SO E u (ρ.set i (.prv (DictR P w a o [k0]))) Po) : SO E (tSeq (tAsg (tDOne P w tk tv) (gName i)) u) ρ Po := so_seq (so_asgD1 hk hv hp)
theorem so_putD {ty tv : TE} {k0 : K2} (q : ρ[i]? = some (Sl.prv (DictR P w a o ks))) (hk : ED ty ρ (k2D k0)) (hv : ED tv ρ (.bool true)) (hl : ks.length < 16777216) (hp : ∀ o', Po (.nxt (ρ.set i (.prv (DictR P w a o' (putL ks k0)))))) :
    SO E (sDPutN P w (tVar i) ty tv) ρ Po := fun Pv G0 H0 G H σ D s k =>
  hv G H σ s.vw _ fun y G1 H1 x1 d1 => by
    have s1 := s.grow x1
    obtain ⟨hv0, _⟩ := s1.dict q
    refine ⟨_, hv0, hk G1 H1 σ s1.vw _ fun z G2 H2 x2 d2 => ?_⟩
    have s2 := s1.grow x2
    obtain ⟨_, hs, ha, gn, xs, e1, ok, ht, fin⟩ := s2.dict q
    cases d1
    obtain ⟨b, rfl⟩ := dv_ref2 d2
    refine ⟨rfl, a, b, o, xs, k0, rfl, rfl, ha, ok, by rw [← List.length_map (·.1), e1]; exact hl, fun x hx => dv_k2 ((ht x hx).up s2.fm.e), dv_k2 (d2.up s2.fm.e), fun o' ok' => ?_⟩
    have e3 := fin o' (putD xs k0 b) ok' (fun x hx => by
      unfold putD at hx
      by_cases hm : k0 ∈ xs.map (·.1)
      · rw [if_pos hm] at hx; exact ht x hx
      · rw [if_neg hm] at hx
        rcases List.mem_append.mp hx with hx | hx
        · exact ht x hx
        · cases List.mem_singleton.mp hx; exact d2)
    rw [putD_keys, e1] at e3
    exact k.nx _ _ G2 _ (hp o') (x1.g.trans x2.g) e3
/-- i = j, the dict -/
theorem so_mvD (q : ρ[j]? = some (Sl.prv (DictR P w a o ks))) (hp : Po (.nxt ((ρ.set j .un).set i (.prv (DictR P w a o ks))))) : SO E (tAsg (tVar j) (gName i)) ρ Po := fun Pv G0 H0 G H σ D s k => by
  obtain ⟨v, hv, s1⟩ := s.move (i := i) q
  exact ⟨v, hv, k.nx _ _ G H hp (.refl _) s1⟩
theorem so_forD {g : TG} {tb : TS} (q : ρ[i]? = some (Sl.prv (DictR P w a o ks))) (I : Nat → Rho → Prop) (hI : ∀ n ρ', I n ρ' → ρ'[i]? = some (Sl.prv (DictR P w a o ks))) (h0 : I 0 ρ)
    (hs : ∀ (n : Nat) x ρ', ks[n]? = some x → I n ρ' → ∃ ρ2, TS_ g (k2D x) ρ' ρ2 ∧ SO E tb ρ2 (Turn (I (n + 1)) Po)) (hd : ∀ ρ', I ks.length ρ' → Po (.nxt ρ')) : SO E (tFor (iKeys2 P w (tVar i)) g tb) ρ Po := fun Pv G0 H0 G H σ D s k => by
  obtain ⟨hv, hm, ha, gn, xs, e1, ok, ht, _⟩ := s.dict q
  have el : xs.length = ks.length := by rw [← e1, List.length_map]
  refine ⟨_, hv, a, o, xs, rfl, hm, ha, ok, ?_⟩
  refine ⟨fun n m σ2 H2 => m = ks.length - n ∧ n ≤ ks.length ∧ ∃ G2 ρ2, Same G G2 ∧ Sta Pv G0 H0 G2 H2 σ2 ρ2 ∧ I n ρ2, ⟨ks.length, by simp, Nat.zero_le _, G, ρ, .refl _, s, h0⟩, ?_⟩
  rintro n m σ2 H2 ⟨rfl, hle, G2, ρ2, e2, s2, hIn⟩
  have hH : H2 a = some (DicO a o) := (s2.dict (hI n ρ2 hIn)).2.2.1
  by_cases hlt : n < ks.length
  · refine .inr ⟨⟨hH, by rw [el]; exact hlt⟩, fun σ3 H3 => n + 1 ≤ ks.length ∧ ∃ G3 ρ3, Same G G3 ∧ Sta Pv G0 H0 G3 H3 σ3 ρ3 ∧ I (n + 1) ρ3, fun σ3 H3 z => ⟨ks.length - (n + 1), by omega, rfl, z⟩, fun x H3 y => ?_⟩
    obtain ⟨rfl, p, hp, rfl⟩ := y
    have hx : ks[n]? = some p.1 := by rw [← e1, List.getElem?_map, hp]; rfl
    obtain ⟨ρ3, tg, so⟩ := hs n _ ρ2 hx hIn
    refine tg Pv G0 H0 G2 H3 σ2 _ _ s2 ((ht p (List.mem_of_getElem? hp)).up e2) fun σ4 s4 => ?_
    refine so Pv G0 H0 G2 H3 σ4 _ s4 ⟨fun ρ5 σ5 G5 H5 p e s5 => ⟨hlt, G5, ρ5, e2.trans e, s5, p⟩, fun ρ5 σ5 G5 H5 p e s5 => ?_, fun ρ5 σ5 G5 H5 p e s5 => ⟨hlt, G5, ρ5, e2.trans e, s5, p⟩, fun ρ5 σ5 d v G5 H5 p e s5 => ?_, fun ρ5 σ5 ds p xs G5 H5 q e s5 => ?_, fun C G5 H5 p => k.xc C G5 H5 p⟩
    · exact k.nx ρ5 σ5 G5 H5 p (e2.trans e) s5
    · exact k.rt ρ5 σ5 d v G5 H5 p (e2.trans e) s5
    · exact k.nw ρ5 σ5 ds p xs G5 H5 q (e2.trans e) s5
  · have e3 : n = ks.length := by omega
    subst e3
    exact .inl ⟨⟨hH, by rw [el]; exact Nat.le_refl _⟩, k.nx ρ2 σ2 G2 H2 (hd ρ2 hIn) e2 s2⟩
theorem sq_forD {g : TG} {tb : TS} (q : ρ[i]? = some (Sl.prv (DictR P w a o ks))) (I : Nat → Rho → Prop) (hI : ∀ n ρ', I n ρ' → ρ'[i]? = some (Sl.prv (DictR P w a o ks))) (h0 : I 0 ρ)
    (hs : ∀ (n : Nat) x ρ', ks[n]? = some x → I n ρ' → ∃ ρ2, TS_ g (k2D x) ρ' ρ2 ∧ SO E tb ρ2 (Turn (I (n + 1)) (After E u Po))) (hd : ∀ ρ', I ks.length ρ' → SO E u ρ' Po) : SO E (tSeq (tFor (iKeys2 P w (tVar i)) g tb) u) ρ Po := so_seq (so_forD q I hI h0 hs hd)
end
end Dl

namespace Dl
open PySem PySem.Spec L2 Rf
/-- J yields the data ds while G and what H1 had stand -/
structure WkH (J : It) (G H1 : Hp) (ds : List PyData) : Prop where
  go : ∀ (i : Nat) H, Same G H → Same H1 H → i < ds.length → J.go i H
  yl : ∀ (i : Nat) d H x H', Same G H → Same H1 H → ds[i]? = some d → J.yld i H x H' → ∀ G1, Same G G1 → Same G1 H → ∃ G2, Gr G1 H G2 H' ∧ Dv G2 x d
  st : ∀ H, Same G H → Same H1 H → J.stop ds.length H
theorem lc_at {ρ : Rho} {G H : Hp} {σ : St} {α : Type} {wi : TI} {g : TG} {tt : TT} {te : TE} {vs ks : List Nat} {ds : List α} {en : α → PyData} {f : α → Bool} {e : α → PyData} (w : Vw G H σ ρ) (hi : ∀ R : It → Hp → Prop, (∀ J G1 H1, Gr G H G1 H1 → WkH J G1 H1 (ds.map en) → R J H1) → wi σ H R) (hk : ∀ k ∈ ks, k ∈ vs) (hl : ds.length < sizeLine)
    (ht : ∀ d ∈ ds, ∃ ρ', TV g (en d) (wipeR ρ vs) ρ' ks ∧ ET tt ρ' (f d) ∧ (f d = true → ED te ρ' (e d))) : ∀ Q : VK, (∀ p xs G' H', Gr G H G' H' → H p = none → G' p = none → H' p = some (.lst xs) → Dvs G' xs ((ds.filter f).map e) → Q (.ref p) H') → tLc wi g tt te vs σ H Q := fun Q q => by
  refine hi _ fun J G1 H1 x1 wk => fun D hD => ?_
  have w1 := w.grow x1
  refine ⟨fun i m H2 => m = ds.length - i ∧ i ≤ ds.length ∧ ∃ G2 acc, Gr G1 (upd H1 D (.lst [])) G2 (upd H2 D (.lst [])) ∧ G2 D = none ∧ H2 D = some (.lst acc) ∧ Dvs G2 acc (((ds.take i).filter f).map e),
    ⟨ds.length, by simp, Nat.zero_le _, G1, [], ?_, x1.e.free hD, upd_same, .nil⟩, ?_⟩
  · rw [upd_upd]
    exact .refl (x1.e.trans (same_new hD))
  rintro i m H2 ⟨rfl, hle, G2, acc, x2, gD, hA, dA⟩
  have s2 : Same G2 H2 := fun b o z => by
    have := x2.e b o z
    rw [upd_ne (ne_of_none z gD)] at this
    exact this
  have s12 : Same G1 H2 := x2.g.trans s2
  have sH : Same H1 H2 := fun b o z => by
    have zb : b ≠ D := ne_of_none z hD
    have z2 := x2.h b o (by rw [upd_ne zb]; exact z)
    rw [upd_ne zb] at z2
    exact z2
  by_cases hlt : i < ds.length
  · refine .inr ⟨wk.go i H2 s12 sH (by rw [List.length_map]; exact hlt), fun H3 => i + 1 ≤ ds.length ∧ ∃ G2 acc, Gr G1 (upd H1 D (.lst [])) G2 (upd H3 D (.lst [])) ∧ G2 D = none ∧ H3 D = some (.lst acc) ∧ Dvs G2 acc (((ds.take (i + 1)).filter f).map e),
      fun H3 z => ⟨ds.length - (i + 1), by omega, rfl, z⟩, fun x H3 y => ?_⟩
    have hd : ds[i]? = some ds[i] := List.getElem?_eq_getElem hlt
    obtain ⟨G3, x3, hx⟩ := wk.yl i (en ds[i]) H2 x H3 s12 sH (by rw [List.getElem?_map, hd]; rfl) y G2 x2.g s2
    have take1 : ds.take (i + 1) = ds.take i ++ [ds[i]] := by rw [List.take_add_one, hd]; rfl
    have gD3 : G3 D = none := x3.f D gD (by rw [hA]; exact Option.some_ne_none _)
    obtain ⟨ρ', tv, et, ed⟩ := ht ds[i] (List.getElem_mem hlt)
    have base : ∀ {G4 H4 : Hp}, Gr G3 H3 G4 H4 → H4 D = some (.lst acc) ∧ G4 D = none ∧ Gr G1 (upd H1 D (.lst [])) G4 (upd H4 D (.lst [])) := fun {G4 H4} x4 => by
      have hA3 := x4.h _ _ (x3.h _ _ hA)
      have gD4 : G4 D = none := x4.f D gD3 (by rw [x3.h _ _ hA]; exact Option.some_ne_none _)
      refine ⟨hA3, gD4, x2.trans ⟨x3.g.trans x4.g, same_both (x3.h.trans x4.h), same_new2 x4.e gD4, fun a p r => ?_⟩⟩
      by_cases ha : a = D
      · rw [ha]; exact gD4
      · rw [upd_ne ha] at r
        exact x4.f a (x3.f a p r) (same_ne x3.h r)
    refine tv G3 H3 (wipe σ vs) x _ ((((w.grow x1).wipe vs)).grow ⟨x2.g.trans x3.g, ?_, x3.e, fun a p r => ?_⟩) hx fun us hus σ' e' w' => ⟨?_, ?_⟩
    · intro b o z
      have zb : b ≠ D := ne_of_none z hD
      have z2 := x2.h b o (by rw [upd_ne zb]; exact z)
      rw [upd_ne zb] at z2
      exact x3.h _ _ z2
    · have zb : a ≠ D := ne_tr hD r
      have z2 := x2.f a p (by rw [upd_ne zb]; exact r)
      refine x3.f a z2 ?_
      have := same_ne x2.h (a := a) (by rw [upd_ne zb]; exact r)
      rw [upd_ne zb] at this
      exact this
    · subst e'
      exact wipe_sets σ ks us vs hk
    · refine et G3 H3 σ' w' _ fun H4 x4 => ?_
      have x34 : Gr G3 H3 G3 H4 := .flat x3.e x4
      cases hf : f ds[i] with
      | true =>
        refine iteT (ed hf G3 H4 σ' (w'.more x4) _ fun z G5 H5 x5 hz => ?_)
        obtain ⟨b1, b2, b3⟩ := base (x34.trans x5)
        have hlen := dA.len
        refine ⟨acc, b1, ?_, hlt, G5, acc ++ [z], ?_, b2, upd_same, ?_⟩
        · rw [hlen, List.length_map]
          refine Nat.lt_of_le_of_lt ?_ hl
          exact Nat.le_trans (List.length_filter_le _ _) (by rw [List.length_take]; omega)
        · rw [upd_upd]; exact b3
        · rw [take1, List.filter_append, List.map_append]
          refine Dvs.app (dA.up (x3.g.trans (x34.g.trans x5.g))) ?_
          rw [List.filter_cons, if_pos hf]
          exact .cons hz .nil
      | false =>
        refine iteF ?_
        obtain ⟨b1, b2, b3⟩ := base x34
        refine ⟨hlt, G3, acc, b3, b2, b1, ?_⟩
        rw [take1, List.filter_append, List.filter_cons, if_neg (by rw [hf]; exact Bool.false_ne_true)]
        simpa using dA.up x3.g
  · have e1 : i = ds.length := by omega
    subst e1
    rw [List.take_length] at dA
    refine .inl ⟨by have := wk.st H2 s12 sH; rw [List.length_map] at this; exact this, ?_⟩
    refine q D acc G2 H2 (x1.trans ⟨x2.g, ?_, s2, fun a p r => ?_⟩) (x1.h.free hD) gD hA dA
    · intro b o z
      have zb : b ≠ D := ne_of_none z hD
      have z2 := x2.h b o (by rw [upd_ne zb]; exact z)
      rw [upd_ne zb] at z2
      exact z2
    · have zb : a ≠ D := ne_tr hD r
      exact x2.f a p (by rw [upd_ne zb]; exact r)/-- a new list, read off a state -/
def ENS (te : TE) (ρ : Rho) (ds : List PyData) : Prop := ∀ Pv G0 H0 G H σ, Sta Pv G0 H0 G H σ ρ → ∀ Q : VK, (∀ p xs G' H', Gr G H G' H' → H p = none → G' p = none → H' p = some (.lst xs) → Dvs G' xs ds → Q (.ref p) H') → te σ H Q
section
variable {E : XK} {ρ : Rho} {i j l : Nat} {P : Program} {w : World} {a : Addr} {o : Obj} {ks : List K2} {Po : Out → Prop} {K : PySem.W.Frag} {u : TS}
theorem ens_lcD {vs : List Nat} {tt : TT} {te : TE} {f : K2 → Bool} {e : K2 → PyData} (q : ρ[i]? = some (Sl.prv (DictR P w a o ks))) (hl : ks.length < 16777216) (hv : vs = [j, l])
    (ht : ∀ x, x ∈ ks → ET tt (((wipeR ρ vs).set j (.dat (.tuple (x.1.map PyData.int)))).set l (.dat (.tuple (x.2.map PyData.int)))) (f x)) (he : ∀ x, x ∈ ks → f x = true → ED te (((wipeR ρ vs).set j (.dat (.tuple (x.1.map PyData.int)))).set l (.dat (.tuple (x.2.map PyData.int)))) (e x)) :
    ENS (tLc (iKeys2 P w (tVar i)) (gTup K 2 (gCons (gName j) (gCons (gName l) gNil))) tt te vs) ρ ((ks.filter f).map e) := fun Pv G0 H0 G H σ s Q k => by
  subst hv
  obtain ⟨hv, hm, ha, gn, xs, e1, ok, hd, _⟩ := s.dict q
  have el : xs.length = ks.length := by rw [← e1, List.length_map]
  refine lc_at (en := k2D) (ds := ks) (ks := [j, l]) s.vw (fun R r => ⟨_, hv, a, o, xs, rfl, hm, ha, ok, r _ G H (.refl s.fm.e) ⟨fun n H2 s1 s2 hn => ?_, fun n d H2 x H3 s1 s2 hn y G1 s3 s4 => ?_, fun H2 s1 s2 => ?_⟩⟩) (fun _ h => h) (size_lt hl) (fun x hx => ⟨_, tv_pair, ht x hx, he x hx⟩) Q k
  · rw [List.length_map] at hn
    exact ⟨s2 _ _ ha, by rw [el]; exact hn⟩
  · obtain ⟨rfl, p, hp, rfl⟩ := y
    rw [List.getElem?_map, ← e1, List.getElem?_map, hp] at hn
    cases hn
    exact ⟨G1, .refl s4, (hd p (List.mem_of_getElem? hp)).up s3⟩
  · rw [List.length_map]
    exact ⟨s2 _ _ ha, by rw [el]; exact Nat.le_refl _⟩
/-- return f([..]) -/
theorem so_retXN {te : TE} {ds : List PyData} {rel : List PyData → Rs → Prop} {r : Rs} {E1 : XK} (h : ENS te ρ ds) (hr : rel [.list ds] r) (h1 : ∀ d, r = .ok d → Po (.ret ρ d)) (h2 : ∀ ds, r = .nw ds → Po (.new ρ ds)) (h3 : ∀ C, r ≠ .er C) :
    SO E (tRet (tCall (PrS rel) [] E1 (tCons te tNil))) ρ Po := fun Pv G0 H0 G H σ D s k =>
  h Pv G0 H0 G H σ s _ fun p xs G1 H1 x1 hn gn hp hd => by
    have x2 := x1.take hn gn hp
    have s1 := s.grow x2
    have e0 : Same G1 (upd G1 p (.lst xs)) := same_new gn
    refine ⟨upd G1 p (.lst xs), [.list ds], r, x2.e, .cons (.lst upd_same (hd.up e0)) .nil, hr, ?_⟩
    cases r with
    | ok d => exact fun v G' H' x hv => k.rt _ _ d v G' H' (h1 d rfl) (x2.g.trans x.g) (s1.grow x) hv
    | nw ds => exact fun p xs G' H' x a b c e => k.nw _ _ ds p xs G' H' (h2 ds rfl) (x2.g.trans x.g) (s1.grow x) (by
        cases q : H0 p with
        | none => rfl
        | some o => exact absurd a (s1.fm.k p (by rw [q]; exact Option.some_ne_none _))) b c e
    | er C => exact absurd rfl (h3 C)
end
end Dl

namespace Rf
open PySem L2 Dl
/-! ### rows with one pair more -/
def lngr (row : List Int) (p : Int) (x y : Int) : List Int := (cut row none (some (p + 1)) ++ [x, y]) ++ cut row (some (p + 1)) none
def oneAt (row : List Int) (c : Int × Int) (p : Int) : List (List Int) := [lngr row p c.1 c.2, lngr row p c.2 c.1].filter fun l => decide (turned l = l) && innerAt l (p + 1)
def wOne (row : List Int) (c : Int × Int) : List (List Int) := (rg 0 ((row.length : Int) - 1).toNat).flatMap (oneAt row c)
theorem lngr_at (s : List Int) (a d x y : Int) (q : List Int) : lngr (s ++ a :: d :: q) (s.length : Int) x y = s ++ a :: x :: y :: d :: q := by
  unfold lngr
  rw [show ((s.length : Int) + 1) = ((s.length + 1 : Nat) : Int) from by omega, cut_to, cut_from]
  have e1 : (s ++ a :: d :: q).take (s.length + 1) = s ++ [a] := by
    rw [List.take_append, List.take_of_length_le (by omega)]; simp
  have e2 : (s ++ a :: d :: q).drop (s.length + 1) = d :: q := by
    rw [List.drop_append]; simp
  rw [e1, e2]; simp
theorem innerAt_at (s : List Int) (a b c d : Int) (q : List Int) : innerAt (s ++ a :: b :: c :: d :: q) (s.length + 1) = decide (inr a b c d) := by
  unfold innerAt
  rw [pin_at]
  have h1 : decide ((1 : Int) ≤ (s.length : Int) + 1) = true := decide_eq_true (by omega)
  have h2 : decide ((s.length : Int) + 1 ≤ ((s ++ a :: b :: c :: d :: q).length : Int) - 3) = true := decide_eq_true (by simp; omega)
  rw [h1, h2]; rfl
theorem split2 {l : List Int} {p : Int} (h1 : 0 ≤ p) (h2 : p < (l.length : Int) - 1) : ∃ s a d q, l = s ++ a :: d :: q ∧ p = s.length := by
  obtain ⟨n, rfl⟩ := Int.eq_ofNat_of_zero_le h1
  have hn : n + 1 < l.length := by omega
  refine ⟨l.take n, l[n], l[n + 1], l.drop (n + 2), ?_, ?_⟩
  · have e := List.take_append_drop n l
    rw [List.drop_eq_getElem_cons (by omega), List.drop_eq_getElem_cons hn] at e
    exact e.symm
  · rw [List.length_take]; omega
theorem mkc_of {a b : Int} (h : a < b) : mkc a b = (a, b) := by
  unfold mkc
  rw [Int.min_eq_left (by omega), Int.max_eq_right (by omega)]
theorem mkc_eq {x y : Int} {c : Int × Int} (h : mkc x y = c) : (x = c.1 ∧ y = c.2) ∨ (x = c.2 ∧ y = c.1) := by
  subst h
  unfold mkc
  show (x = min x y ∧ y = max x y) ∨ (x = max x y ∧ y = min x y)
  omega
theorem mem_oneAt {row : List Int} {c : Int × Int} {p : Int} {l : List Int} : l ∈ oneAt row c p ↔ (l = lngr row p c.1 c.2 ∨ l = lngr row p c.2 c.1) ∧ turned l = l ∧ innerAt l (p + 1) = true := by
  unfold oneAt
  rw [List.mem_filter]
  simp
theorem mem_wOne {row : List Int} {c : Int × Int} {l : List Int} (hc : c.1 < c.2) : l ∈ wOne row c ↔ isT l ∧ Red l c row := by
  unfold wOne
  rw [List.mem_flatMap]
  constructor
  · rintro ⟨p, hp, hl⟩
    rw [mem_rg] at hp
    obtain ⟨s, a, d, q, rfl, rfl⟩ := split2 (l := row) (p := p) (by omega) (by omega)
    obtain ⟨h1, h2, h3⟩ := mem_oneAt.mp hl
    have ht : isT l := h2 ▸ turned_isT l
    refine ⟨ht, ?_⟩
    have hm : mkc c.1 c.2 = c := mkc_of hc
    rcases h1 with rfl | rfl
    · rw [lngr_at] at h3 ⊢
      rw [innerAt_at, decide_eq_true_eq] at h3
      have := Red.at s q h3
      rwa [hm] at this
    · rw [lngr_at] at h3 ⊢
      rw [innerAt_at, decide_eq_true_eq] at h3
      have := Red.at s q h3
      rwa [mkc_comm, hm] at this
  · rintro ⟨ht, hr⟩
    obtain ⟨s, a, b, c', d, q, hi, rfl, rfl, rfl⟩ := hr.form
    refine ⟨(s.length : Int), mem_rg.mpr ⟨by omega, by simp; omega⟩, mem_oneAt.mpr ⟨?_, turned_self ht, by rw [innerAt_at]; exact decide_eq_true hi⟩⟩
    rcases mkc_eq (rfl : mkc b c' = mkc b c') with ⟨e1, e2⟩ | ⟨e1, e2⟩
    · left
      rw [lngr_at, ← e1, ← e2]
    · right
      rw [lngr_at, ← e1, ← e2]
theorem wOne_len (row : List Int) (c : Int × Int) : (wOne row c).length ≤ 2 * row.length := by
  unfold wOne
  have h : ∀ l : List Int, (l.flatMap (oneAt row c)).length ≤ 2 * l.length := by
    intro l
    induction l with
    | nil => simp
    | cons a r ih =>
      rw [List.flatMap_cons, List.length_append, List.length_cons]
      have : (oneAt row c a).length ≤ 2 := Nat.le_trans (List.length_filter_le _ _) (by simp)
      omega
  have := h (rg 0 ((row.length : Int) - 1).toNat)
  rw [rg_len] at this
  omega
/-! ### keys: a row, the numbers of the cycles that it has -/
abbrev KY := List Int × List Int
structure KeyOk (cs : List (Int × Int)) (rest : List Int) (t : Nat) (k : KY) : Prop where
  up : k.2.Pairwise (· < ·)
  ln : k.2.length = t
  bd : ∀ m ∈ k.2, 0 ≤ m ∧ m < (cs.length : Int)
  tu : isT k.1
  rs : rst k.1 = rest
  cy : (cyc k.1).Perm (k.2.map (gI cs))
theorem cyc_red {l m : List Int} {p : Int × Int} (t : isT l) (h : Red l p m) : (cyc l).Perm (p :: cyc m) ∧ rst m = rst l := by
  obtain ⟨e, r⟩ := cyc_step t (RS.one h)
  refine ⟨?_, r⟩
  rw [← e]
  exact srtC_perm _
theorem srtI_lt {l : List Int} (h : l.Nodup) : (srtI l).Pairwise (· < ·) := by
  have h1 : (srtI l).Pairwise (fun a b => leI a b = true) := srtI_srt l
  have h2 : (srtI l).Nodup := (srtI_perm l).nodup_iff.mpr h
  exact (h1.and h2).imp fun {a b} z => by
    have := leI_iff.mp z.1
    have := z.2
    omega
theorem lt_nodup {l : List Int} (h : l.Pairwise (· < ·)) : l.Nodup := h.imp fun {a b} z => by omega
section
variable {cs : List (Int × Int)} {rest : List Int} {t : Nat}
theorem KeyOk.fwd {row U l : List Int} {m : Int} (hc : ∀ p ∈ cs, p.1 < p.2) (k : KeyOk cs rest t (row, U)) (h0 : 0 ≤ m) (h1 : m < (cs.length : Int)) (hm : m ∉ U) (hl : l ∈ wOne row (gI cs m)) : KeyOk cs rest (t + 1) (l, srtI (U ++ [m])) := by
  obtain ⟨ht, hr⟩ := (mem_wOne (hc _ (gI_mem (by omega) h1))).mp hl
  obtain ⟨e1, e2⟩ := cyc_red ht hr
  have nd : (U ++ [m]).Nodup := List.nodup_append.mpr ⟨lt_nodup k.up, by simp, fun x hx y hy => by simp at hy; subst hy; exact fun z => hm (z ▸ hx)⟩
  refine ⟨srtI_lt nd, ?_, fun x hx => ?_, ht, e2.symm.trans k.rs, ?_⟩
  · show (srtI (U ++ [m])).length = t + 1
    rw [(srtI_perm _).length_eq, List.length_append, show U.length = t from k.ln]; rfl
  · have hx : x ∈ U ++ [m] := (srtI_perm _).mem_iff.mp hx
    rcases List.mem_append.mp hx with hx | hx
    · exact k.bd x hx
    · simp at hx; subst hx; exact ⟨h0, h1⟩
  · refine e1.trans (((List.Perm.cons _ k.cy)).trans ?_)
    refine List.Perm.trans ?_ (((srtI_perm (U ++ [m])).map (gI cs)).symm)
    rw [List.map_append]
    exact (List.perm_append_singleton _ _).symm
theorem KeyOk.bwd {l W : List Int} (hc : ∀ p ∈ cs, p.1 < p.2) (k : KeyOk cs rest (t + 1) (l, W)) : ∃ row U m, KeyOk cs rest t (row, U) ∧ 0 ≤ m ∧ m < (cs.length : Int) ∧ m ∉ U ∧ l ∈ wOne row (gI cs m) ∧ W = srtI (U ++ [m]) := by
  have hne : cyc l ≠ [] := fun z => by
    have e := k.cy.length_eq
    rw [show cyc (l, W).1 = [] from z, List.length_map, show (l, W).2.length = t + 1 from k.ln] at e
    simp at e
  have hn : ¬ Nf l := fun z => hne (cyc_nf k.tu z).1
  obtain ⟨p, row, hr⟩ : ∃ p row, Red l p row := by
    apply Classical.byContradiction
    intro z
    exact hn fun p row h => z ⟨p, row, h⟩
  obtain ⟨e1, e2⟩ := cyc_red k.tu hr
  have hp : p ∈ (l, W).2.map (gI cs) := k.cy.mem_iff.mp (e1.mem_iff.mpr List.mem_cons_self)
  obtain ⟨m, hm, hpm⟩ := List.mem_map.mp hp
  have hm : m ∈ W := hm
  obtain ⟨b0, b1⟩ := k.bd m hm
  have pe : W.Perm (m :: W.erase m) := List.perm_cons_erase hm
  have ndW : W.Nodup := lt_nodup k.up
  refine ⟨row, W.erase m, m, ⟨(k.up : W.Pairwise (· < ·)).sublist List.erase_sublist, ?_, fun x hx => k.bd x (List.mem_of_mem_erase hx), hr.isT k.tu, e2.trans k.rs, ?_⟩, b0, b1, ndW.not_mem_erase, (mem_wOne (hc _ (gI_mem (by omega) b1))).mpr ⟨k.tu, by rw [hpm]; exact hr⟩, ?_⟩
  · show (W.erase m).length = t
    have := pe.length_eq
    rw [show W.length = t + 1 from k.ln, List.length_cons] at this
    omega
  · have e3 : (p :: cyc row).Perm (p :: (W.erase m).map (gI cs)) := by
      refine e1.symm.trans (k.cy.trans ?_)
      have := pe.map (gI cs)
      rw [List.map_cons, hpm] at this
      exact this
    exact e3.cons_inv
  · refine (srtI_uniq ((k.up : W.Pairwise (· < ·)).imp fun {a b} z => leI_iff.mpr (by omega)) ?_)
    exact pe.trans (List.perm_append_singleton _ _).symm
theorem keyOk_zero (ht : isT rest) (hn : Nf rest) {k : KY} : KeyOk cs rest 0 k ↔ k = (rest, []) := by
  constructor
  · intro h
    obtain ⟨l, U⟩ := k
    have e1 : U = [] := List.length_eq_zero_iff.mp h.ln
    subst e1
    have e2 : cyc l = [] := List.Perm.eq_nil h.cy
    have e3 := (nf_of_cyc e2).2
    have e4 : rst l = rest := h.rs
    rw [← e4, e3]
  · rintro rfl
    obtain ⟨e1, e2⟩ := cyc_nf ht hn
    exact ⟨List.Pairwise.nil, rfl, (fun m hm => nomatch hm), ht, e2, by show (cyc rest).Perm []; rw [e1]⟩
/-- all rows with the cycles cs and the rest -/
structure IsAll (cs : List (Int × Int)) (rest : List Int) (R : List (List Int)) : Prop where
  up : R.Pairwise (· < ·)
  mem : ∀ l, l ∈ R ↔ isT l ∧ cyc l = srtC cs ∧ rst l = rest
theorem incr_uniq {α : Type} {lt : α → α → Prop} (as : ∀ a b, lt a b → lt b a → False) : ∀ {l m : List α}, l.Pairwise lt → m.Pairwise lt → (∀ x, x ∈ l ↔ x ∈ m) → l = m
  | [], [], _, _, _ => rfl
  | [], y :: m, _, _, h => by have := (h y).mpr List.mem_cons_self; cases this
  | x :: l, [], _, _, h => by have := (h x).mp List.mem_cons_self; cases this
  | x :: l, y :: m, hl, hm, h => by
    rw [List.pairwise_cons] at hl hm
    have e : x = y := by
      rcases List.mem_cons.mp ((h x).mp List.mem_cons_self) with e | e
      · exact e
      · rcases List.mem_cons.mp ((h y).mpr List.mem_cons_self) with f | f
        · exact f.symm
        · exact (as _ _ (hm.1 x e) (hl.1 y f)).elim
    subst e
    rw [incr_uniq as hl.2 hm.2 fun z => ?_]
    constructor
    · intro hz
      rcases List.mem_cons.mp ((h z).mp (List.mem_cons_of_mem _ hz)) with e | e
      · subst e; exact (as _ _ (hl.1 z hz) (hl.1 z hz)).elim
      · exact e
    · intro hz
      rcases List.mem_cons.mp ((h z).mpr (List.mem_cons_of_mem _ hz)) with e | e
      · subst e; exact (as _ _ (hm.1 z hz) (hm.1 z hz)).elim
      · exact e
theorem lst_as (a b : List Int) (h : a < b) (k : b < a) : False := List.lt_asymm h k
theorem IsAll.uniq {R S : List (List Int)} (h : IsAll cs rest R) (k : IsAll cs rest S) : R = S := incr_uniq lst_as h.up k.up fun x => (h.mem x).trans (k.mem x).symm
theorem gI_all (cs : List (Int × Int)) : (rg 0 cs.length).map (gI cs) = cs := by
  apply List.ext_getElem?
  intro i
  rw [List.getElem?_map]
  by_cases h : i < cs.length
  · rw [rg_get h, List.getElem?_eq_getElem h]
    show some (gI cs (0 + (i : Int))) = _
    rw [Int.zero_add]
    congr 1
    have := gI_atk (α := Int × Int) [] cs i cs[i] (List.getElem?_eq_getElem h) (i := (i : Int)) (by simp)
    simpa using this
  · rw [List.getElem?_eq_none (by rw [rg_len]; omega), List.getElem?_eq_none (by omega)]; rfl
theorem rg_lt (lo : Int) (n : Nat) : (rg lo n).Pairwise (· < ·) := rg_up lo n
theorem incr_rg : ∀ (U : List Int) (lo : Int), U.Pairwise (· < ·) → (∀ m ∈ U, lo ≤ m ∧ m < lo + U.length) → U = rg lo U.length
  | [], _, _, _ => rfl
  | x :: r, lo, h, b => by
    rw [List.pairwise_cons] at h
    have bx := b x List.mem_cons_self
    rw [List.length_cons] at bx
    have e := incr_rg r (lo + 1) h.2 fun m hm => by
      have h1 := h.1 m hm
      have h2 := b m (List.mem_cons_of_mem _ hm)
      rw [List.length_cons] at h2
      omega
    have ex : x = lo := by
      cases r with
      | nil => simp at bx; omega
      | cons y r =>
        have hy : y = lo + 1 := by
          rw [List.length_cons, rg_succ] at e
          exact (List.cons.inj e).1
        have := h.1 y List.mem_cons_self
        omega
    rw [List.length_cons, rg_succ, ← e, ex]
/-- the last keys are those of all rows -/
theorem keyOk_last {l : List Int} : (∃ U, KeyOk cs rest cs.length (l, U)) ↔ isT l ∧ cyc l = srtC cs ∧ rst l = rest := by
  constructor
  · rintro ⟨U, k⟩
    have e : U = rg 0 cs.length := by
      have hl : U.length = cs.length := k.ln
      rw [← hl]
      exact incr_rg U 0 k.up fun m hm => by have := k.bd m hm; omega
    subst e
    refine ⟨k.tu, ?_, k.rs⟩
    have := k.cy
    rw [show (l, rg 0 cs.length).2 = rg 0 cs.length from rfl, gI_all] at this
    have h2 := srtC_congr this
    rw [← h2]
    exact (cyc_srt l).symm
  · rintro ⟨h1, h2, h3⟩
    refine ⟨rg 0 cs.length, rg_lt 0 _, rg_len 0 _, fun m hm => by have := mem_rg.mp hm; omega, h1, h3, ?_⟩
    show (cyc l).Perm ((rg 0 cs.length).map (gI cs))
    rw [gI_all, h2]
    exact srtC_perm cs
end
end Rf

namespace Rf
open PySem L2 Dl
/-! ### sorted lists of rows, each once -/
theorem lt_of_ne {a b : List Int} (h : a ≤ b) (n : a ≠ b) : a < b := by
  by_cases z : a < b
  · exact z
  · exact absurd (List.le_antisymm h (List.not_lt.mp z)) n
theorem lt_le {a b c : List Int} (h : a < b) (k : b ≤ c) : a < c := by
  by_cases z : a < c
  · exact z
  · exact absurd h (List.not_lt.mpr (List.le_trans k (List.not_lt.mp z)))
def uqR (ls : List (List Int)) : List (List Int) := ls.take 1 ++ w2 (fun a b => !decide (b = a)) (fun _ b => b) ls
theorem uqR_ix (ls : List (List Int)) : (((rg 0 (ls.length : Int).toNat).filter fun k => decide (k = 0) || !decide (gI ls k = gI ls (k - 1))).map (gI ls)) = uqR ls := by
  cases ls with
  | nil => rfl
  | cons a r =>
    have e : (((a :: r).length : Nat) : Int).toNat = r.length + 1 := by simp
    rw [e, rg_succ, List.filter_cons, if_pos (by simp), List.map_cons]
    have h := w2_ix (fun a b => !decide (b = a)) (fun _ b => b) (a :: r)
    unfold uqR
    rw [← h]
    have e2 : (a :: r).length - 1 = r.length := by simp
    rw [e2]
    show _ :: _ = _ :: _
    congr 2
    apply List.filter_congr
    intro k hk
    have := (rg_mem hk).1
    rw [decide_eq_false (by omega : ¬ k = 0), Bool.false_or]
theorem uqR_cc (a b : List Int) (r : List (List Int)) : uqR (a :: b :: r) = if b = a then uqR (b :: r) else a :: uqR (b :: r) := by
  have e1 : uqR (a :: b :: r) = a :: (if (!decide (b = a)) = true then b :: w2 (fun a b => !decide (b = a)) (fun _ b => b) (b :: r) else w2 (fun a b => !decide (b = a)) (fun _ b => b) (b :: r)) := rfl
  have e2 : uqR (b :: r) = b :: w2 (fun a b => !decide (b = a)) (fun _ b => b) (b :: r) := rfl
  rw [e1, e2]
  by_cases h : b = a
  · subst h; simp
  · simp [h]
theorem uqR_mem : ∀ {ls : List (List Int)} {p : List Int}, p ∈ uqR ls ↔ p ∈ ls
  | [], p => Iff.rfl
  | [a], p => Iff.rfl
  | a :: b :: r, p => by
    rw [uqR_cc]
    by_cases h : b = a
    · rw [if_pos h, uqR_mem, h]
      simp
    · rw [if_neg h, List.mem_cons, uqR_mem, List.mem_cons (a := p) (b := a)]
theorem uqR_len (ls : List (List Int)) : (uqR ls).length ≤ ls.length := by
  rw [← uqR_ix, List.length_map]
  refine Nat.le_trans (List.length_filter_le _ _) ?_
  rw [rg_len]; omega
theorem uqR_up : ∀ {ls : List (List Int)}, ls.Pairwise (· ≤ ·) → (uqR ls).Pairwise (· < ·)
  | [], _ => List.Pairwise.nil
  | [a], _ => List.pairwise_singleton _ _
  | a :: b :: r, h => by
    rw [uqR_cc]
    have h2 := (List.pairwise_cons.mp h).2
    have h1 := (List.pairwise_cons.mp h).1
    by_cases e : b = a
    · rw [if_pos e]; exact uqR_up h2
    · rw [if_neg e]
      refine List.pairwise_cons.mpr ⟨fun x hx => ?_, uqR_up h2⟩
      have hx := uqR_mem.mp hx
      have hab : a < b := by
        have h3 := h1 b List.mem_cons_self
        exact lt_of_ne h3 fun z => e z.symm
      rcases List.mem_cons.mp hx with rfl | hx
      · exact hab
      · exact lt_le hab ((List.pairwise_cons.mp h2).1 x hx)
theorem srtR_perm (ls : List (List Int)) : (srtR ls).Perm ls := List.mergeSort_perm _ _
theorem srtR_up (ls : List (List Int)) : (srtR ls).Pairwise (· ≤ ·) := by
  have := List.pairwise_mergeSort (le := fun a b : List Int => decide (a ≤ b)) (fun a b c h1 h2 => by
    rw [decide_eq_true_eq] at *
    exact List.le_trans h1 h2) (fun a b => by
    rw [Bool.or_eq_true, decide_eq_true_eq, decide_eq_true_eq]
    exact List.le_total a b) ls
  exact this.imp fun {a b} h => of_decide_eq_true h
theorem srtR_self {ls : List (List Int)} (h : ls.Pairwise (· < ·)) : srtR ls = ls := by
  refine List.mergeSort_of_pairwise (h.imp fun {a b} z => decide_eq_true (List.le_of_lt z))
/-- sorted, of what has no row twice -/
theorem srtR_lt {ls : List (List Int)} (h : ls.Nodup) : (srtR ls).Pairwise (· < ·) := by
  have h1 := srtR_up ls
  have h2 : (srtR ls).Nodup := (srtR_perm ls).nodup_iff.mpr h
  exact (h1.and h2).imp fun {a b} z => by
    exact lt_of_ne z.1 z.2
/-! ### the keys, step by step -/
def gK (cs : List (Int × Int)) (k : KY) (m : Int) : List KY := if m ∈ k.2 then [] else (wOne k.1 (gI cs m)).map fun l => (l, srtI (k.2 ++ [m]))
def fK (cs : List (Int × Int)) (k : KY) : List KY := (rg 0 cs.length).flatMap (gK cs k)
def stepK (cs : List (Int × Int)) (ks : List KY) : List KY := ks.flatMap (fK cs)
def keysN (cs : List (Int × Int)) (rest : List Int) : Nat → List KY
  | 0 => [(rest, [])]
  | t + 1 => stepK cs (keysN cs rest t)
section
variable {cs : List (Int × Int)} {rest : List Int}
theorem mem_gK {k z : KY} {m : Int} : z ∈ gK cs k m ↔ m ∉ k.2 ∧ z.1 ∈ wOne k.1 (gI cs m) ∧ z.2 = srtI (k.2 ++ [m]) := by
  unfold gK
  by_cases h : m ∈ k.2
  · rw [if_pos h]; simp [h]
  · rw [if_neg h, List.mem_map]
    constructor
    · rintro ⟨l, hl, rfl⟩; exact ⟨h, hl, rfl⟩
    · rintro ⟨_, hl, e⟩; exact ⟨z.1, hl, by rw [← e]⟩
theorem stepK_ok (hc : ∀ p ∈ cs, p.1 < p.2) {t : Nat} {ks : List KY} (h : ∀ k, k ∈ ks ↔ KeyOk cs rest t k) (k : KY) : k ∈ stepK cs ks ↔ KeyOk cs rest (t + 1) k := by
  unfold stepK fK
  rw [List.mem_flatMap]
  constructor
  · rintro ⟨k0, h0, hm⟩
    obtain ⟨m, hm, hz⟩ := List.mem_flatMap.mp hm
    obtain ⟨a1, a2, a3⟩ := mem_gK.mp hz
    have bm := mem_rg.mp hm
    have := ((h k0).mp h0).fwd (row := k0.1) (U := k0.2) hc (by omega) (by omega) a1 a2
    rw [← a3] at this
    exact this
  · intro hk
    obtain ⟨row, U, m, h1, h2, h3, h4, h5, h6⟩ := hk.bwd (l := k.1) (W := k.2) hc
    exact ⟨(row, U), (h _).mpr h1, List.mem_flatMap.mpr ⟨m, mem_rg.mpr ⟨by omega, by omega⟩, mem_gK.mpr ⟨h4, h5, h6⟩⟩⟩
theorem keysN_ok (hc : ∀ p ∈ cs, p.1 < p.2) (ht : isT rest) (hn : Nf rest) : ∀ (t : Nat) (k : KY), k ∈ keysN cs rest t ↔ KeyOk cs rest t k
  | 0, k => by rw [keyOk_zero ht hn]; show k ∈ [(rest, [])] ↔ _; simp
  | t + 1, k => stepK_ok hc (keysN_ok hc ht hn t) k
/-- from the last keys to all rows -/
theorem isAll_of {ks : List KY} (h : ∀ k, k ∈ ks ↔ KeyOk cs rest cs.length k) : IsAll cs rest (uqR (srtR (ks.map (·.1)))) := by
  refine ⟨uqR_up (srtR_up _), fun l => ?_⟩
  rw [uqR_mem, (srtR_perm _).mem_iff, List.mem_map, ← keyOk_last]
  constructor
  · rintro ⟨k, hk, rfl⟩; exact ⟨k.2, (h _).mp hk⟩
  · rintro ⟨U, hk⟩; exact ⟨_, (h _).mpr hk, rfl⟩
def allR (cs : List (Int × Int)) (rest : List Int) : List (List Int) := uqR (srtR ((keysN cs rest cs.length).map (·.1)))
theorem allR_is (hc : ∀ p ∈ cs, p.1 < p.2) (ht : isT rest) (hn : Nf rest) : IsAll cs rest (allR cs rest) := isAll_of (keysN_ok hc ht hn _)
theorem KeyOk.row {t : Nat} {k : KY} (h : KeyOk cs rest t k) : k.1.length = rest.length + 2 * t := by
  have h1 := rs_len k.1
  rw [h.rs, h.cy.length_eq, List.length_map, h.ln] at h1
  exact h1
theorem gK_len {k : KY} {m : Int} : (gK cs k m).length ≤ 2 * k.1.length := by
  unfold gK
  split
  · simp
  · rw [List.length_map]; exact wOne_len _ _
theorem flat_len {α β : Type} {f : α → List β} {n : Nat} : ∀ {l : List α}, (∀ x ∈ l, (f x).length ≤ n) → (l.flatMap f).length ≤ n * l.length
  | [], _ => by simp
  | x :: l, h => by
    rw [List.flatMap_cons, List.length_append, List.length_cons]
    have h1 := h x List.mem_cons_self
    have h2 := flat_len (l := l) fun y hy => h y (List.mem_cons_of_mem _ hy)
    rw [Nat.mul_add]; omega
theorem fK_len {k : KY} : (fK cs k).length ≤ 2 * k.1.length * cs.length := by
  have := flat_len (f := gK cs k) (l := rg 0 cs.length) (n := 2 * k.1.length) fun m _ => gK_len
  rw [rg_len] at this
  exact this
end
end Rf
namespace Dl
open PySem L2 Rf
section
variable {X : Cx} {K : PySem.W.Frag}
theorem op_notInT (h : X.K = K) : OpR X (compareOp .NotIn) (rIn K true) := h ▸ op_notIn_seq
theorem cb_srtRK (h : X.K = K) (hu : X.A.units + 64 < cLine) : CallR X (.builtin "sorted") (rSrtR K) := h ▸ cr_srtR hu
theorem cb_srtTK (h : X.K = K) : CallR X (.builtin "sorted") (rSrtT K) := h ▸ cr_srtT
theorem rc_srtR {ls : List (List Int)} : RC (rSrtR K) [.list (ls.map dI)] (.list ((srtR ls).map dI)) := rcn_srtR.rc
theorem rc_srtT {ns : List Int} : RC (rSrtT K) [.tuple (ns.map PyData.int)] (dI (srtI ns)) := rcn_srtT.rc
end
/-- the same keys, no more of them -/
def Mem2 (fol L : List K2) : Prop := (∀ k, k ∈ fol ↔ k ∈ L) ∧ fol.length ≤ L.length
theorem mem2_nil : Mem2 [] [] := ⟨fun _ => Iff.rfl, Nat.le_refl _⟩
theorem Mem2.put {fol L : List K2} (h : Mem2 fol L) (k0 : K2) : Mem2 (putL fol k0) (L ++ [k0]) := by
  unfold putL
  refine ⟨fun k => ?_, ?_⟩
  · rw [List.mem_append, ← h.1 k]
    by_cases hm : k0 ∈ fol
    · rw [if_pos hm]
      constructor
      · exact fun z => .inl z
      · rintro (z | z)
        · exact z
        · simp at z; subst z; exact hm
    · rw [if_neg hm, List.mem_append]
  · rw [List.length_append]
    have := h.2
    split
    · omega
    · rw [List.length_append]; simp; omega
end Dl

namespace Rf
open PySem L2 Dl
/-- l has the cycles cs and the rest -/
def Has (cs : List (Int × Int)) (rest l : List Int) : Prop := isT l ∧ cyc l = srtC cs ∧ rst l = rest
section
variable {cs : List (Int × Int)} {rest : List Int} {R : List (List Int)}
theorem IsAll.nd (h : IsAll cs rest R) : R.Nodup := List.Pairwise.imp (S := fun a b => a ≠ b) (fun {a b} z e => by subst e; exact lst_as _ _ z z) h.up
theorem isT_rev {l : List Int} (h : isT l) : isT l.reverse := by
  have := turned_rev l
  rw [turned_self h] at this
  rw [← this]
  exact turned_isT _
theorem has_rev {l : List Int} (h : Has cs rest l) : Has cs rest.reverse l.reverse := by
  obtain ⟨h1, h2, h3⟩ := h
  have t := isT_rev h1
  obtain ⟨e1, e2⟩ := cy_rev l
  have f1 : cy_ l.reverse = cyc l.reverse := by show cyc (turned l.reverse) = _; rw [turned_self t]
  have f2 : cy_ l = cyc l := by show cyc (turned l) = _; rw [turned_self h1]
  have f3 : re_ l.reverse = rst l.reverse := by show rst (turned l.reverse) = _; rw [turned_self t]
  have f4 : re_ l = rst l := by show rst (turned l) = _; rw [turned_self h1]
  rw [f1, f2] at e1
  rw [f3, f4] at e2
  exact ⟨t, e1.trans h2, by rw [e2, h3]⟩
theorem all_rev {S : List (List Int)} (h : IsAll cs rest.reverse S) : IsAll cs rest (srtR (S.map List.reverse)) := by
  refine ⟨srtR_lt ?_, fun l => ?_⟩
  · exact List.Pairwise.map _ (fun a b hab z => hab (List.reverse_inj.mp z)) h.nd
  · rw [(srtR_perm _).mem_iff, List.mem_map]
    constructor
    · rintro ⟨m, hm, rfl⟩
      have := has_rev ((h.mem m).mp hm)
      rwa [List.reverse_reverse] at this
    · intro hl
      exact ⟨l.reverse, (h.mem _).mpr (has_rev hl), List.reverse_reverse l⟩
end
/-! similar rows -/
section
variable {f f' : Int → Int} {g g' : Int × Int → Int × Int} {cs : List (Int × Int)} {rest : List Int}
theorem has_sim (S : Sim f g) {l : List Int} (h : Has cs rest l) : Has (cs.map g) (rest.map f) (l.map f) := by
  obtain ⟨h1, h2, h3⟩ := h
  obtain ⟨e1, e2⟩ := S.cyc h1
  refine ⟨S.isT h1, ?_, by rw [e2, h3]⟩
  rw [e1, h2]
  exact srtC_congr ((srtC_perm cs).map g)
theorem has_sim_iff (S : Sim f g) (S' : Sim f' g') (hf : ∀ x, f' (f x) = x) (hg : ∀ p, g' (g p) = p) {l : List Int} : Has (cs.map g) (rest.map f) (l.map f) ↔ Has cs rest l := by
  refine ⟨fun h => ?_, has_sim S⟩
  have := has_sim S' h
  have e1 : ∀ m : List Int, (m.map f).map f' = m := fun m => by rw [List.map_map]; exact (List.map_congr_left fun x _ => hf x).trans (List.map_id m)
  have e2 : (cs.map g).map g' = cs := by rw [List.map_map]; exact (List.map_congr_left fun x _ => hg x).trans (List.map_id cs)
  rwa [e1, e1, e2] at this
/-- all rows of the similar ones are the similar ones of all rows -/
theorem all_sim (S : Sim f g) (S' : Sim f' g') (hf : ∀ x, f' (f x) = x) (hf2 : ∀ x, f (f' x) = x) (hg : ∀ p, g' (g p) = p) {R T : List (List Int)} (h : IsAll cs rest R) (k : IsAll (cs.map g) (rest.map f) T) (l : List Int) : l ∈ T ↔ l ∈ R.map (List.map f) := by
  have e1 : ∀ m : List Int, (m.map f').map f = m := fun m => by rw [List.map_map]; exact (List.map_congr_left fun x _ => hf2 x).trans (List.map_id m)
  rw [k.mem l, List.mem_map]
  constructor
  · intro hl
    refine ⟨l.map f', (h.mem _).mpr ?_, e1 l⟩
    refine (has_sim_iff S S' hf hg).mp ?_
    rw [e1]; exact hl
  · rintro ⟨m, hm, rfl⟩
    exact has_sim S ((h.mem m).mp hm)
theorem srtC_all {cs' : List (Int × Int)} {T : List (List Int)} (p : cs.Perm cs') (h : IsAll cs rest T) : IsAll cs' rest T := ⟨h.up, fun l => by rw [h.mem l, srtC_congr p]⟩
theorem map_lt_of {f : Int → Int} (hf : ∀ a b, a < b → f a < f b) : ∀ {a b : List Int}, a < b → a.map f < b.map f
  | [], [], h => absurd h (List.lt_irrefl _)
  | [], y :: b, _ => List.nil_lt_cons _ _
  | x :: a, [], h => by cases h
  | x :: a, y :: b, h => by
    rw [List.map_cons, List.map_cons]
    rw [List.cons_lt_cons_iff] at h ⊢
    rcases h with h | ⟨e, h⟩
    · exact .inl (hf x y h)
    · exact .inr ⟨by rw [e], map_lt_of hf h⟩
/-- raised -/
theorem all_add (c : Int) {R T : List (List Int)} (h : IsAll cs rest R) (k : IsAll (cs.map fun p => (p.1 + c, p.2 + c)) (rest.map fun x => x + c) T) : T = R.map (List.map fun x => x + c) := by
  refine incr_uniq lst_as k.up ?_ fun l => all_sim (sim_add c) (sim_add (-c)) (fun x => by omega) (fun x => by omega) (fun p => Prod.ext (by show p.1 + c + -c = p.1; omega) (by show p.2 + c + -c = p.2; omega)) h k l
  exact List.Pairwise.map _ (fun a b hab => map_lt_of (fun x y hxy => by omega) hab) h.up
/-- turned over -/
theorem all_neg {R T : List (List Int)} (h : IsAll cs rest R) (k : IsAll (cs.map fun p => (0 - p.2, 0 - p.1)) (rest.map fun x => 0 - x) T) : srtR (T.map (List.map fun x => 0 - x)) = R := by
  have ng : ∀ m : List Int, (m.map fun x => 0 - x).map (fun x => 0 - x) = m := fun m => by rw [List.map_map]; exact (List.map_congr_left fun x _ => by show 0 - (0 - x) = id x; simp).trans (List.map_id m)
  refine incr_uniq lst_as (srtR_lt ?_) h.up fun l => ?_
  · refine List.Pairwise.map _ (fun a b hab z => hab ?_) k.nd
    have := congrArg (List.map fun x : Int => 0 - x) z
    rwa [ng, ng] at this
  · rw [(srtR_perm _).mem_iff, List.mem_map]
    have key := all_sim sim_neg sim_neg (fun x => by omega) (fun x => by omega) (fun p => Prod.ext (by show 0 - (0 - p.1) = p.1; omega) (by show 0 - (0 - p.2) = p.2; omega)) h k
    constructor
    · rintro ⟨m, hm, rfl⟩
      obtain ⟨n, hn, rfl⟩ := List.mem_map.mp ((key m).mp hm)
      rw [ng]; exact hn
    · intro hl
      exact ⟨l.map fun x => 0 - x, (key _).mpr (List.mem_map.mpr ⟨l, hl, rfl⟩), ng l⟩
/-- a pair less -/
theorem has_less {l m : List Int} {p : Int × Int} (h : Has cs rest l) (hr : Red l p m) : p ∈ cs ∧ Has (cs.erase p) rest m := by
  obtain ⟨h1, h2, h3⟩ := h
  obtain ⟨e1, e2⟩ := cyc_red h1 hr
  rw [h2] at e1
  have e3 : cs.Perm (p :: cyc m) := (srtC_perm cs).symm.trans e1
  have hp : p ∈ cs := e3.mem_iff.mpr List.mem_cons_self
  refine ⟨hp, hr.isT h1, ?_, e2.trans h3⟩
  have e4 : (cs.erase p).Perm (cyc m) := by
    have := e3.erase p
    rwa [List.erase_cons_head] at this
  rw [← cyc_srt m]
  exact srtC_congr e4.symm
/-- one cycle in two values -/
theorem one_up {lo hi : Int} (h0 : 0 ≤ lo) (h1 : lo < hi) (h2 : hi ≤ 9) : IsAll [(lo, hi)] [0, 9] [[0, hi, lo, 9]] := by
  refine ⟨List.pairwise_singleton _ _, fun l => ?_⟩
  have hm : mkc hi lo = (lo, hi) := by rw [mkc_comm]; exact mkc_of h1
  constructor
  · intro hl
    have : l = [0, hi, lo, 9] := by simpa using hl
    subst this
    have t : isT [0, hi, lo, 9] := by
      show ext 0 hi lo ∧ ext hi lo 9 ∧ lo ≠ 9
      unfold ext
      omega
    have r : Red [0, hi, lo, 9] (lo, hi) [0, 9] := by
      have := Red.at [] (a := 0) (b := hi) (c := lo) (d := 9) [] (by unfold inr; omega)
      rwa [hm] at this
    obtain ⟨e1, e2⟩ := cyc_is t (RS.one r) (nf_short (by simp))
    exact ⟨t, e1.symm, e2.symm⟩
  · rintro ⟨t, hc, hr⟩
    have hn : ¬ Nf l := fun z => by
      have := (cyc_nf t z).1
      rw [hc] at this
      have := congrArg List.length this
      rw [srtC_len] at this
      simp at this
    obtain ⟨p, m, hred⟩ : ∃ p m, Red l p m := by
      apply Classical.byContradiction
      intro z
      exact hn fun p m h => z ⟨p, m, h⟩
    obtain ⟨hp, t2, c2, r2⟩ := has_less ⟨t, hc, hr⟩ hred
    have hp : p = (lo, hi) := by simpa using hp
    subst hp
    have : srtC ([(lo, hi)].erase (lo, hi)) = [] := by simp [srtC_self]
    rw [this] at c2
    have e := (nf_of_cyc c2).2
    rw [r2] at e
    obtain ⟨s, a, b, c, d, q, hi', rfl, hm2, hl2⟩ := hred.form
    rw [← e] at hm2
    have hs : s = [] ∧ a = 0 ∧ d = 9 ∧ q = [] := by
      match s, hm2 with
      | [], hm2 => simp at hm2; exact ⟨rfl, hm2.1.symm, hm2.2.1.symm, hm2.2.2⟩
      | [x], hm2 => simp at hm2
      | x :: y :: s, hm2 => simp at hm2
    obtain ⟨rfl, rfl, rfl, rfl⟩ := hs
    rcases mkc_eq hl2.symm with ⟨e1, e2⟩ | ⟨e1, e2⟩
    · have e1 : b = lo := e1
      have e2 : c = hi := e2
      have t' : ext 0 b c := t.1
      unfold ext at t'
      omega
    · have e1 : b = hi := e1
      have e2 : c = lo := e2
      rw [e1, e2]; simp
theorem one_down {lo hi : Int} (h0 : 0 ≤ lo) (h1 : lo < hi) (h2 : hi ≤ 9) : IsAll [(lo, hi)] [9, 0] [[9, lo, hi, 0]] := by
  have := all_rev (rest := [9, 0]) (one_up h0 h1 h2)
  rwa [show srtR (([[0, hi, lo, 9]] : List (List Int)).map List.reverse) = [[9, lo, hi, 0]] from srtR_self (List.pairwise_singleton _ _)] at this
end
end Rf

namespace Dl
open PySem PySem.Spec L2 Rf
section
variable {K : PySem.W.Frag} {ρ : Rho}
theorem ex_sl {te : TE} {tl th : TO} {lo hi : Option Int} {Φ : List Int → Prop} (h : EX te ρ (fun d => ∃ ns, d = dI ns ∧ Φ ns)) (h1 : EO tl ρ lo) (h2 : EO th ρ hi) : EX (tSl (rSlL K) te tl th) ρ (fun d => ∃ ns, d = dI (cut ns lo hi) ∧ Φ ns) := fun Pv G0 H0 G H σ s Q q =>
  h Pv G0 H0 G H σ s _ fun v d G1 H1 ⟨ns, e, hΦ⟩ g s1 hv => h1 G1 H1 σ s1.vw _ fun H2 x2 => h2 G1 H2 σ (s1.vw.more x2) _ fun H3 x3 => by
    subst e
    have s3 := s1.more (x2.trans x3)
    cases hv with
    | @lst a xs _ k1 k2 =>
      refine ⟨_, _, rfl, SqL.of (s3.fm.e _ _ k1), fun p hp => ?_⟩
      have e0 := k2.cut lo hi
      rw [cut_map] at e0
      have en := same_new (o := .lst (cutV xs lo hi)) (s3.fm.e.free hp)
      exact q (.ref p) _ _ _ ⟨ns, rfl, hΦ⟩ (g.trans en) (s3.grow (Gr.new s3.fm.e hp)) (.lst upd_same (e0.up en))
theorem eqv_rows (a b : List (List Int)) : PyData.eqv (.list (a.map dI)) (.list (b.map dI)) = decide (a = b) := by
  rw [PyData.eqv]
  exact eqv_map eqv_dI a b
theorem rd_eqR {a b : List (List Int)} : RD (rEqD K) (.list (a.map dI)) (.list (b.map dI)) (.bool (decide (a = b))) := rd_is (rd_eq (pl_map pl_dI a) (pl_map pl_dI b)) (congrArg PyData.bool (eqv_rows a b))
theorem rd_neR {a b : List (List Int)} : RD (rNeD K) (.list (a.map dI)) (.list (b.map dI)) (.bool (!decide (a = b))) := rd_is (rd_ne (pl_map pl_dI a) (pl_map pl_dI b)) (congrArg (fun b => PyData.bool (!b)) (eqv_rows a b))
theorem rd_notInR {l : List Int} {ls : List (List Int)} : RD (rNotInD K) (dI l) (.list (ls.map dI)) (.bool (!decide (l ∈ ls))) := rd_is (rd_notIn (pl_dI l) (pl_map pl_dI ls)) (congrArg (fun b => PyData.bool (!b)) ((any_eqv (f := dI) eqv_dI ls l).trans (decide_eq_decide.mpr Iff.rfl)))
theorem rd_inR {l : List Int} {ls : List (List Int)} : RD (rInD K) (dI l) (.list (ls.map dI)) (.bool (decide (l ∈ ls))) := rd_is (rd_in (pl_dI l) (pl_map pl_dI ls)) (congrArg PyData.bool ((any_eqv (f := dI) eqv_dI ls l).trans (decide_eq_decide.mpr Iff.rfl)))
end
end Dl
namespace Rf
open PySem L2 Dl
section
variable {cs : List (Int × Int)} {rest : List Int}
theorem keysN_len (hc : ∀ p ∈ cs, p.1 < p.2) (ht : isT rest) (hn : Nf rest) (h3 : cs.length ≤ 3) (h8 : rest.length ≤ 8) : ∀ t : Nat, t ≤ cs.length → (keysN cs rest t).length ≤ 72 ^ t
  | 0, _ => by show 1 ≤ 1; exact Nat.le_refl _
  | t + 1, h => by
    have ih := keysN_len hc ht hn h3 h8 t (by omega)
    have h0 := flat_len (f := fK cs) (l := keysN cs rest t) (n := 72) fun x hx => by
      have h1 := fK_len (cs := cs) (k := x)
      have h2 := ((keysN_ok hc ht hn t x).mp hx).row
      exact Nat.le_trans h1 (Nat.le_trans (Nat.mul_le_mul (Nat.mul_le_mul_left 2 (by omega : x.1.length ≤ 12)) h3) (by decide))
    refine Nat.le_trans h0 ?_
    rw [Nat.pow_succ, Nat.mul_comm]
    exact Nat.mul_le_mul_right 72 ih
theorem allR_len (hc : ∀ p ∈ cs, p.1 < p.2) (ht : isT rest) (hn : Nf rest) (h3 : cs.length ≤ 3) (h8 : rest.length ≤ 8) : (allR cs rest).length ≤ 373248 := by
  unfold allR
  refine Nat.le_trans (uqR_len _) ?_
  rw [(srtR_perm _).length_eq, List.length_map]
  exact Nat.le_trans (keysN_len hc ht hn h3 h8 _ (Nat.le_refl _)) (Nat.le_trans (Nat.pow_le_pow_right (by decide) h3) (by decide))
end
end Rf
namespace Dl
theorem erase_i (cs : List (Int × Int)) (c : Int × Int) : @List.erase (Int × Int) instBEqOfDecidableEq cs c = cs.erase c := by
  induction cs with
  | nil => rfl
  | cons a r ih =>
    have e1 : @List.erase (Int × Int) instBEqOfDecidableEq (a :: r) c = if a = c then r else a :: @List.erase (Int × Int) instBEqOfDecidableEq r c := by
      by_cases h : a = c
      · subst h; rw [if_pos rfl]; exact @List.erase_cons_head _ instBEqOfDecidableEq _ a r
      · rw [if_neg h]; exact @List.erase_cons_tail _ instBEqOfDecidableEq c a r (by simpa using h)
    have e2 : (a :: r).erase c = if a = c then r else a :: r.erase c := by
      by_cases h : a = c
      · subst h; rw [if_pos rfl]; exact List.erase_cons_head ..
      · rw [if_neg h]; exact List.erase_cons_tail (by simpa using h)
    rw [e1, e2, ih]
end Dl

namespace Rf
open PySem L2 Dl
/-! ### a row with given cycles exists -/
theorem ext_of_lt {a b c : Int} (h1 : b < a) (h2 : b < c) : ext a b c := by unfold ext; omega
/-- putting a pair into a rising range -/
theorem put_up (s : List Int) {a d lo hi : Int} (q : List Int) (t : isT (s ++ a :: d :: q)) (h1 : a ≤ lo) (h2 : lo < hi) (h3 : hi ≤ d) : isT (s ++ a :: hi :: lo :: d :: q) ∧ Red (s ++ a :: hi :: lo :: d :: q) (lo, hi) (s ++ a :: d :: q) := by
  have r : Red (s ++ a :: hi :: lo :: d :: q) (lo, hi) (s ++ a :: d :: q) := by
    have := Red.at s (a := a) (b := hi) (c := lo) (d := d) q (by unfold inr; omega)
    rwa [show mkc hi lo = (lo, hi) from by rw [mkc_comm]; exact mkc_of h2] at this
  refine ⟨?_, r⟩
  -- the part behind
  have tail : isT (a :: d :: q) → isT (a :: hi :: lo :: d :: q) := by
    intro t
    have e1 : ext a hi lo := by unfold ext; omega
    have e2 : ext hi lo d := by unfold ext; omega
    refine ⟨e1, e2, ?_⟩
    match q, t with
    | [], _ => show lo ≠ d; omega
    | e :: q, t =>
      have t1 : ext a d e := t.1
      refine ⟨?_, t.2⟩
      unfold ext at t1 ⊢
      omega
  have head : ∀ s : List Int, isT (s ++ a :: d :: q) → isT (s ++ a :: hi :: lo :: d :: q) := by
    intro s
    induction s with
    | nil => exact tail
    | cons x s ih =>
      intro t
      cases s with
      | nil =>
        have t : ext x a d ∧ isT (a :: d :: q) := t
        refine ⟨?_, tail t.2⟩
        have := t.1
        unfold ext at this ⊢
        omega
      | cons y s =>
        cases s with
        | nil => exact ⟨t.1, ih t.2⟩
        | cons z s => exact ⟨t.1, ih t.2⟩
  exact head s t
/-- from a up to M by pairs that are at least w wide -/
inductive Up (w M : Int) : Int → List Int → Prop
  | last {a : Int} : a < M → Up w M a [M]
  | step {a hi lo : Int} {q : List Int} : a < hi → lo < hi → w ≤ hi - lo → Up w M lo q → Up w M a (hi :: lo :: q)
theorem Up.mono {w w' M a : Int} {q : List Int} (h : Up w M a q) (hw : w' ≤ w) : Up w' M a q := by
  induction h with
  | last h => exact .last h
  | step h1 h2 h3 _ ih => exact .step h1 h2 (by omega) ih
theorem Up.put {w M a : Int} {q : List Int} (h : Up w M a q) : ∀ {lo hi : Int}, a ≤ lo → lo < hi → hi ≤ M → hi - lo ≤ w → ∃ q', Up (hi - lo) M a q' ∧ ∀ s z, isT (s ++ a :: (q ++ z)) → isT (s ++ a :: (q' ++ z)) ∧ Red (s ++ a :: (q' ++ z)) (lo, hi) (s ++ a :: (q ++ z)) := by
  induction h with
  | @last a h =>
    intro lo hi h1 h2 h3 h4
    exact ⟨[hi, lo, M], .step (by omega) h2 (Int.le_refl _) (.last (by omega)), fun s z t => put_up s z t h1 h2 h3⟩
  | @step a hi0 lo0 q g1 g2 g3 hu ih =>
    intro lo hi h1 h2 h3 h4
    by_cases hh : hi ≤ hi0
    · exact ⟨hi :: lo :: hi0 :: lo0 :: q, .step (by omega) h2 (Int.le_refl _) (.step (by omega) g2 (by omega) (hu.mono h4)), fun s z t => put_up s (lo0 :: (q ++ z)) t h1 h2 hh⟩
    · obtain ⟨q', u', k⟩ := ih (lo := lo) (hi := hi) (by omega) h2 h3 h4
      refine ⟨hi0 :: lo0 :: q', .step g1 g2 (by omega) u', fun s z t => ?_⟩
      have := k (s ++ [a, hi0]) z (by simpa using t)
      simpa using this
/-- the widest first -/
theorem up_all {M a : Int} {rest s z : List Int} (hr : rest = s ++ a :: ([M] ++ z)) (ht : isT rest) (hn : Nf rest) (ham : a < M) : ∀ (ws : List (Int × Int)), ws.Pairwise (fun p q => q.2 - q.1 ≤ p.2 - p.1) → (∀ p ∈ ws, a ≤ p.1 ∧ p.1 < p.2 ∧ p.2 ≤ M) → ∃ q, (∀ w, (∀ p ∈ ws, w ≤ p.2 - p.1) → Up w M a q) ∧ Has ws rest (s ++ a :: (q ++ z))
  | ws => by
    -- from the right end of ws
    suffices H : ∀ rs : List (Int × Int), rs.Pairwise (fun p q => p.2 - p.1 ≤ q.2 - q.1) → (∀ p ∈ rs, a ≤ p.1 ∧ p.1 < p.2 ∧ p.2 ≤ M) → ∃ q, (∀ w, (∀ p ∈ rs, w ≤ p.2 - p.1) → Up w M a q) ∧ Has rs rest (s ++ a :: (q ++ z)) by
      intro h1 h2
      obtain ⟨q, k1, k2⟩ := H ws.reverse (List.pairwise_reverse.mpr h1) (fun p hp => h2 p (List.mem_reverse.mp hp))
      exact ⟨q, fun w hw => k1 w fun p hp => hw p (List.mem_reverse.mp hp), k2.1, by rw [k2.2.1]; exact srtC_congr (List.reverse_perm ws), k2.2.2⟩
    intro rs
    induction rs with
    | nil =>
      intro _ _
      refine ⟨[M], fun w _ => .last ham, ?_⟩
      rw [← hr]
      obtain ⟨e1, e2⟩ := cyc_nf ht hn
      exact ⟨ht, by rw [e1]; rfl, e2⟩
    | cons p rs ih =>
      intro h1 h2
      rw [List.pairwise_cons] at h1
      obtain ⟨q, k1, k2⟩ := ih h1.2 fun r hr => h2 r (List.mem_cons_of_mem _ hr)
      obtain ⟨b1, b2, b3⟩ := h2 p List.mem_cons_self
      obtain ⟨q', u', k⟩ := (k1 (p.2 - p.1) (fun r hr => h1.1 r hr)).put (lo := p.1) (hi := p.2) b1 b2 b3 (Int.le_refl _)
      obtain ⟨t', r'⟩ := k s z k2.1
      refine ⟨q', fun w hw => u'.mono (hw p List.mem_cons_self), t', ?_, ?_⟩
      · have e := (cyc_red t' r').1
        rw [← cyc_srt]
        refine srtC_congr (e.trans (List.Perm.cons _ ?_))
        rw [k2.2.1]
        exact srtC_perm rs
      · exact (cyc_red t' r').2.symm.trans k2.2.2
theorem has_up {rest s z : List Int} {a M : Int} {cs : List (Int × Int)} (hr : rest = s ++ a :: M :: z) (ht : isT rest) (hn : Nf rest) (ham : a < M) (hc : ∀ p ∈ cs, a ≤ p.1 ∧ p.1 < p.2 ∧ p.2 ≤ M) : ∃ l, Has cs rest l := by
  let ws := cs.mergeSort fun p q => decide (q.2 - q.1 ≤ p.2 - p.1)
  have hp : ws.Perm cs := List.mergeSort_perm _ _
  have hs : ws.Pairwise (fun p q => q.2 - q.1 ≤ p.2 - p.1) := by
    have := List.pairwise_mergeSort (le := fun p q : Int × Int => decide (q.2 - q.1 ≤ p.2 - p.1)) (fun a b c h1 h2 => by
      rw [decide_eq_true_eq] at *; omega) (fun a b => by rw [Bool.or_eq_true, decide_eq_true_eq, decide_eq_true_eq]; omega) cs
    exact this.imp fun {a b} h => of_decide_eq_true h
  obtain ⟨q, _, k⟩ := up_all (s := s) (z := z) (by rw [hr]; rfl) ht hn ham ws hs fun p hq => hc p (hp.mem_iff.mp hq)
  exact ⟨_, k.1, k.2.1.trans (srtC_congr hp), k.2.2⟩
theorem has_ex {rest : List Int} {cs : List (Int × Int)} (ht : isT rest) (hn : Nf rest) (h2 : 2 ≤ rest.length) (hc : ∀ p ∈ cs, lmin rest ≤ p.1 ∧ p.1 < p.2 ∧ p.2 ≤ lmax rest) : ∃ l, Has cs rest l := by
  have hg : ranges rest ≠ [] := fun z => by
    have := congrArg List.length z
    rw [ranges_len] at this
    simp at this
    omega
  have w := widest ht hn hg
  have hlt := (top_at hg).1
  rw [ranges_len] at hlt
  obtain ⟨s, a, d, q, e, hp⟩ := split2 (l := rest) (p := ((ranges rest).idxOf (lmax (ranges rest)) : Nat)) (by omega) (by omega)
  rw [hp] at w
  have g1 : gI rest (s.length : Int) = a := by rw [e]; exact gI_at s a _
  have g2 : gI rest ((s.length : Int) + 1) = d := by rw [e]; exact gI_atk s _ 1 d rfl (by omega)
  rw [g1, g2] at w
  have hperm := srtI_perm [a, d]
  rw [w] at hperm
  have hle : lmin rest ≤ lmax rest := lmin_le (lmax_mem (by intro z; rw [z] at h2; simp at h2))
  have had : a ≠ d := by
    have t : isT (a :: d :: q) := by
      have : ∀ s : List Int, isT (s ++ a :: d :: q) → isT (a :: d :: q) := by
        intro s
        induction s with
        | nil => exact id
        | cons x s ih => exact fun t => ih (isT_tail t)
      exact this s (e ▸ ht)
    match q, t with
    | [], t => exact t
    | x :: q, t => have := t.1; unfold ext at this; omega
  have cases2 : (a = lmin rest ∧ d = lmax rest) ∨ (a = lmax rest ∧ d = lmin rest) := by
    have ha : a ∈ [lmin rest, lmax rest] := hperm.mem_iff.mpr (by simp)
    have hd : d ∈ [lmin rest, lmax rest] := hperm.mem_iff.mpr (by simp)
    simp at ha hd
    omega
  rcases cases2 with ⟨e1, e2⟩ | ⟨e1, e2⟩
  · refine has_up e ht hn (by omega) fun p hp => ?_
    rw [e1, e2]; exact hc p hp
  · have er : rest.reverse = q.reverse ++ d :: a :: s.reverse := by rw [e]; simp
    obtain ⟨l, hl⟩ := has_up (cs := cs) er (isT_rev ht) hn.rev (by omega) fun p hp => by rw [e1, e2]; exact hc p hp
    have := has_rev hl
    rw [List.reverse_reverse] at this
    exact ⟨_, this⟩
end Rf

namespace Rf
open PySem L2 Dl
/-! ### all turning rows of some values, value by value -/
def okN (row : List Int) (v : Int) : Bool := (row.isEmpty || !decide (v = gI row (-1))) && (decide ((row.length : Int) < 2) || !decide (decide (gI row (-1) < v) = decide (gI row (-2) < gI row (-1))))
def moreR (ls : List (List Int)) (vs : List Int) : List (List Int) := ls.flatMap fun row => (vs.filter (okN row)).map fun v => row ++ [v]
theorem gI_l1 (s : List Int) (x : Int) : gI (s ++ [x]) (-1) = x := by
  unfold gI
  rw [if_neg (by omega)]
  have e : (-1 + ((s.length : Int) + 1)).toNat = s.length := by omega
  simp [e]
theorem gI_l2 (s : List Int) (p x : Int) : gI (s ++ [p, x]) (-2) = p := by
  unfold gI
  rw [if_neg (by omega)]
  have e : (-2 + ((s.length : Int) + 2)).toNat = s.length := by omega
  simp [e]
theorem isT_app3 (p x v : Int) : ∀ s : List Int, isT (s ++ [p, x, v]) ↔ isT (s ++ [p, x]) ∧ ext p x v
  | [] => by
    show (ext p x v ∧ x ≠ v) ↔ (p ≠ x ∧ ext p x v)
    unfold ext; omega
  | [y] => by
    show (ext y p x ∧ ext p x v ∧ x ≠ v) ↔ ((ext y p x ∧ p ≠ x) ∧ ext p x v)
    unfold ext; omega
  | y :: z :: s => by
    have ih := isT_app3 p x v (z :: s)
    match s, ih with
    | [], ih =>
      show (ext y z p ∧ isT ([z] ++ [p, x, v])) ↔ ((ext y z p ∧ isT ([z] ++ [p, x])) ∧ ext p x v)
      rw [ih, and_assoc]
    | w :: s, ih =>
      show (ext y z w ∧ isT (z :: w :: s ++ [p, x, v])) ↔ ((ext y z w ∧ isT (z :: w :: s ++ [p, x])) ∧ ext p x v)
      rw [ih, and_assoc]
theorem isT_snoc {row : List Int} {v : Int} : isT (row ++ [v]) ↔ isT row ∧ okN row v = true := by
  rcases List.eq_nil_or_concat row with rfl | ⟨s, x, rfl⟩
  · exact ⟨fun _ => ⟨trivial, by simp [okN]⟩, fun _ => trivial⟩
  rw [List.concat_eq_append]
  rcases List.eq_nil_or_concat s with rfl | ⟨s, p, rfl⟩
  · have e1 : gI ([] ++ [x]) (-1) = x := gI_l1 [] x
    unfold okN
    rw [e1]
    show x ≠ v ↔ True ∧ _
    simp
    omega
  · rw [List.concat_eq_append]
    have e0 : (s ++ [p] ++ [x]) = s ++ [p, x] := by simp
    have e1 : gI (s ++ [p, x]) (-1) = x := by rw [← e0]; exact gI_l1 _ x
    have e2 := gI_l2 s p x
    rw [e0, show s ++ [p, x] ++ [v] = s ++ [p, x, v] from by simp, isT_app3]
    refine and_congr_right fun ht => ?_
    have hpx : p ≠ x := by
      have : ∀ s : List Int, isT (s ++ [p, x]) → p ≠ x := by
        intro s
        induction s with
        | nil => exact id
        | cons y s ih => exact fun t => ih (isT_tail t)
      exact this s ht
    unfold okN
    rw [e1, e2]
    have h1 : (s ++ [p, x]).isEmpty = false := by cases s <;> rfl
    have h2 : decide ((((s ++ [p, x]).length : Nat) : Int) < 2) = false := decide_eq_false (by simp; omega)
    rw [h1, h2, Bool.false_or, Bool.false_or, Bool.and_eq_true, Bool.not_eq_true', Bool.not_eq_true', decide_eq_false_iff_not, decide_eq_false_iff_not]
    unfold ext
    by_cases a1 : x < v <;> by_cases a2 : p < x <;> simp [a1, a2] <;> omega
theorem lt_app {a b : List Int} : ∀ {a b : List Int} (x y : List Int), a.length = b.length → a < b → a ++ x < b ++ y
  | [], [], x, y, _, h => absurd h (List.lt_irrefl _)
  | [], _ :: _, x, y, e, _ => by simp at e
  | _ :: _, [], x, y, e, _ => by simp at e
  | u :: a, w :: b, x, y, e, h => by
    rw [List.cons_append, List.cons_append, List.cons_lt_cons_iff]
    rw [List.cons_lt_cons_iff] at h
    rcases h with h | ⟨h1, h⟩
    · exact .inl h
    · exact .inr ⟨h1, lt_app (a := a) (b := b) x y (by simpa using e) h⟩
theorem lt_last : ∀ (a : List Int) {v w : Int}, v < w → a ++ [v] < a ++ [w]
  | [], v, w, h => by
    show [v] < [w]
    rw [List.cons_lt_cons_iff]; exact .inl h
  | x :: a, v, w, h => by
    rw [List.cons_append, List.cons_append, List.cons_lt_cons_iff]
    exact .inr ⟨rfl, lt_last a h⟩
/-- all turning rows of n of the values, rising -/
structure AllT (vs : List Int) (n : Nat) (ls : List (List Int)) : Prop where
  up : ls.Pairwise (· < ·)
  mem : ∀ l, l ∈ ls ↔ isT l ∧ l.length = n ∧ ∀ x ∈ l, x ∈ vs
theorem allT_zero (vs : List Int) : AllT vs 0 [[]] := ⟨List.pairwise_singleton _ _, fun l => by
  rw [List.mem_singleton]
  constructor
  · rintro rfl; exact ⟨trivial, rfl, fun x hx => nomatch hx⟩
  · rintro ⟨_, h, _⟩; exact List.length_eq_zero_iff.mp h⟩
theorem AllT.more {vs : List Int} {n : Nat} {ls : List (List Int)} (hv : vs.Pairwise (· < ·)) (h : AllT vs n ls) : AllT vs (n + 1) (moreR ls vs) := by
  refine ⟨?_, fun l => ?_⟩
  · unfold moreR
    rw [List.pairwise_flatMap]
    refine ⟨fun row hr => ?_, ?_⟩
    · exact List.Pairwise.map _ (fun v w hvw => lt_last row hvw) (hv.filter _)
    · refine List.Pairwise.imp_of_mem (fun {a b} ha hb hab x hx y hy => ?_) h.up
      obtain ⟨v, _, rfl⟩ := List.mem_map.mp hx
      obtain ⟨w, _, rfl⟩ := List.mem_map.mp hy
      exact lt_app (a := a) (b := b) [v] [w] (((h.mem a).mp ha).2.1.trans ((h.mem b).mp hb).2.1.symm) hab
  · unfold moreR
    rw [List.mem_flatMap]
    constructor
    · rintro ⟨row, hr, hl⟩
      obtain ⟨v, hv, rfl⟩ := List.mem_map.mp hl
      obtain ⟨h1, h2⟩ := List.mem_filter.mp hv
      obtain ⟨a1, a2, a3⟩ := (h.mem row).mp hr
      refine ⟨isT_snoc.mpr ⟨a1, h2⟩, by rw [List.length_append, a2]; rfl, fun x hx => ?_⟩
      rcases List.mem_append.mp hx with hx | hx
      · exact a3 x hx
      · simp at hx; subst hx; exact h1
    · rintro ⟨t, hn, hm⟩
      rcases List.eq_nil_or_concat l with rfl | ⟨row, v, rfl⟩
      · simp at hn
      rw [List.concat_eq_append] at *
      obtain ⟨t1, t2⟩ := isT_snoc.mp t
      refine ⟨row, (h.mem row).mpr ⟨t1, by simpa using hn, fun x hx => hm x (List.mem_append_left _ hx)⟩, List.mem_map.mpr ⟨v, List.mem_filter.mpr ⟨hm v (by simp), t2⟩, rfl⟩⟩
theorem moreR_len (ls : List (List Int)) (vs : List Int) : (moreR ls vs).length ≤ vs.length * ls.length := by
  unfold moreR
  exact flat_len fun row _ => by rw [List.length_map]; exact List.length_filter_le _ _
/-- the values of a row are those of its cycles and its rest -/
theorem has_vals {cs : List (Int × Int)} {rest l : List Int} (h : Has cs rest l) : ∀ x ∈ l, x ∈ rest ∨ ∃ p ∈ cs, x = p.1 ∨ x = p.2 := by
  have red : ∀ {l m : List Int} {p : Int × Int}, Red l p m → ∀ x ∈ l, x ∈ m ∨ x = p.1 ∨ x = p.2 := by
    intro l m p hr x hx
    obtain ⟨s, a, b, c, d, q, _, rfl, rfl, rfl⟩ := hr.form
    rcases mkc_eq (rfl : mkc b c = mkc b c) with ⟨e1, e2⟩ | ⟨e1, e2⟩
    · simp only [List.mem_append, List.mem_cons] at hx ⊢
      rw [← e1, ← e2]
      rcases hx with hx | hx | hx | hx | hx | hx <;> simp [hx]
    · simp only [List.mem_append, List.mem_cons] at hx ⊢
      rw [← e1, ← e2]
      rcases hx with hx | hx | hx | hx | hx | hx <;> simp [hx]
  have rs : ∀ {l m : List Int} {ps : List (Int × Int)}, RS l ps m → ∀ x ∈ l, x ∈ m ∨ ∃ p ∈ ps, x = p.1 ∨ x = p.2 := by
    intro l m ps hr
    induction hr with
    | nil => exact fun x hx => .inl hx
    | cons h1 _ ih =>
      intro x hx
      rcases red h1 x hx with h2 | h2
      · rcases ih x h2 with h3 | ⟨p, hp, h3⟩
        · exact .inl h3
        · exact .inr ⟨p, List.mem_cons_of_mem _ hp, h3⟩
      · exact .inr ⟨_, List.mem_cons_self, h2⟩
  intro x hx
  obtain ⟨_, h2, h3⟩ := h
  rcases rs (nrm_rs l) x hx with h4 | ⟨p, hp, h4⟩
  · rw [h3] at h4; exact .inl h4
  · refine .inr ⟨p, ?_, h4⟩
    have := (cyc_perm l).mem_iff.mpr hp
    rw [h2] at this
    exact srtC_mem.mp this
theorem isAll_nil {rest : List Int} (ht : isT rest) (hn : Nf rest) : IsAll [] rest [rest] := ⟨List.pairwise_singleton _ _, fun l => by
  rw [List.mem_singleton]
  constructor
  · rintro rfl
    obtain ⟨e1, e2⟩ := cyc_nf ht hn
    exact ⟨ht, by rw [e1]; rfl, e2⟩
  · rintro ⟨_, h2, h3⟩
    have e : cyc l = [] := h2
    rw [← h3, (nf_of_cyc e).2]⟩
/-- trying all -/
theorem all_try {cs : List (Int × Int)} {rest : List Int} {vs : List Int} {ls R : List (List Int)} (h : AllT vs (rest.length + 2 * cs.length) ls) (k : IsAll cs rest R) (hv : ∀ x, (x ∈ rest ∨ ∃ p ∈ cs, x = p.1 ∨ x = p.2) → x ∈ vs) (t : List Int → Bool) (ht : ∀ l ∈ ls, t l = true ↔ cyc l = srtC cs ∧ rst l = rest) : R = ls.filter t := by
  refine incr_uniq lst_as k.up (h.up.filter _) fun l => ?_
  rw [List.mem_filter, k.mem l]
  constructor
  · intro hl
    have e := rs_len l
    rw [hl.2.1, hl.2.2, srtC_len] at e
    have hm := (h.mem l).mpr ⟨hl.1, e, fun x hx => hv x (has_vals hl x hx)⟩
    exact ⟨hm, (ht l hm).mpr hl.2⟩
  · rintro ⟨hm, hl⟩
    exact ⟨((h.mem l).mp hm).1, (ht l hm).mp hl⟩
end Rf
namespace Dl
open PySem L2 Rf
section
variable {K : PySem.W.Frag}
def cdD (a : List (Int × Int)) (b : List Int) : PyData := .tuple [dC a, dI b]
theorem pl_cd (a : List (Int × Int)) (b : List Int) : Pl 3 (cdD a b) := pl_tup fun d h => by
  simp only [List.mem_cons, List.not_mem_nil, or_false] at h
  rcases h with rfl | rfl
  · exact pl_dC a
  · exact ⟨(pl_dI b).1, Nat.le_trans (pl_dI b).2 (by decide)⟩
theorem eqv_cd (a c : List (Int × Int)) (b d : List Int) : PyData.eqv (cdD a b) (cdD c d) = decide (a = c ∧ b = d) := by
  unfold cdD
  rw [PyData.eqv]
  simp only [PyData.eqvAll, eqv_dC, eqv_dI]
  rw [Bool.and_true, Bool.decide_and]
theorem rd_neCD {a c : List (Int × Int)} {b d : List Int} : RD (rNeD K) (.tuple [dC a, dI b]) (.tuple [dC c, dI d]) (.bool (!decide (a = c ∧ b = d))) := rd_is (rd_ne (pl_cd a b) (pl_cd c d)) (congrArg (fun x => PyData.bool (!x)) (eqv_cd a c b d))
theorem rd_eqCD {a c : List (Int × Int)} {b d : List Int} : RD (rEqD K) (.tuple [dC a, dI b]) (.tuple [dC c, dI d]) (.bool (decide (a = c ∧ b = d))) := rd_is (rd_eq (pl_cd a b) (pl_cd c d)) (congrArg PyData.bool (eqv_cd a c b d))
theorem rd_eqRN {ls : List (List Int)} : RD (rEqD K) (.list (ls.map dI)) (.list []) (.bool (decide (ls = []))) := rd_eqR (b := [])
theorem rd_neRN {ls : List (List Int)} : RD (rNeD K) (.list (ls.map dI)) (.list []) (.bool (!decide (ls = []))) := rd_neR (b := [])
end
end Dl
namespace Rf
open PySem L2 Dl
theorem gI_upR {R : List (List Int)} (h : R.Pairwise (· < ·)) {k : Int} (h0 : 0 ≤ k) (h1 : k + 1 < (R.length : Int)) : gI R k < gI R (k + 1) := by
  obtain ⟨n, rfl⟩ := Int.eq_ofNat_of_zero_le h0
  have hn : n + 1 < R.length := by omega
  have e1 : gI R (n : Int) = R[n] := by
    have := gI_atk (α := List Int) [] R n R[n] (List.getElem?_eq_getElem (by omega)) (i := (n : Int)) (by simp)
    simpa using this
  have e2 : gI R ((n : Int) + 1) = R[n + 1] := by
    have := gI_atk (α := List Int) [] R (n + 1) R[n + 1] (List.getElem?_eq_getElem hn) (i := (n : Int) + 1) (by simp)
    simpa using this
  rw [e1, e2]
  exact List.pairwise_iff_getElem.mp h n (n + 1) (by omega) hn (by omega)
theorem incr_of : ∀ V : List Int, ∃ vs : List Int, vs.Pairwise (· < ·) ∧ (∀ k, k ∈ vs ↔ k ∈ V) ∧ vs.length ≤ V.length
  | [] => ⟨[], List.Pairwise.nil, fun _ => Iff.rfl, Nat.le_refl _⟩
  | x :: V => by
    obtain ⟨vs, h1, h2, h3⟩ := incr_of V
    by_cases hx : x ∈ vs
    · refine ⟨vs, h1, fun k => ?_, by rw [List.length_cons]; omega⟩
      rw [List.mem_cons, ← h2 k]
      constructor
      · exact .inr
      · rintro (rfl | z)
        · exact hx
        · exact z
    · refine ⟨srtI (x :: vs), srtI_lt (List.nodup_cons.mpr ⟨hx, lt_nodup h1⟩), fun k => ?_, ?_⟩
      · rw [(srtI_perm _).mem_iff, List.mem_cons, List.mem_cons, h2 k]
      · rw [(srtI_perm _).length_eq, List.length_cons, List.length_cons]; omega
end Rf

namespace Rf
open Dl
/-! rows at hand: the cycles and the rest computed -/
def runN : Nat → List Int → List (Int × Int) × List Int
  | 0, l => ([], l)
  | n + 1, l => match pairs l with
    | [] => ([], l)
    | k :: _ => (mkc (gI l k) (gI l (k + 1)) :: (runN n (cut l none (some k) ++ cut l (some (k + 2)) none)).1, (runN n (cut l none (some k) ++ cut l (some (k + 2)) none)).2)
theorem run_rs : ∀ (n : Nat) (l : List Int), RS l (runN n l).1 (runN n l).2
  | 0, l => .nil
  | n + 1, l => by
    unfold runN
    cases e : pairs l with
    | nil => exact .nil
    | cons k r =>
      have hk : innerAt l k = true := mem_pairs.mp (by rw [e]; exact List.mem_cons_self)
      exact .cons (innerAt_red hk) (run_rs n _)
theorem run_at {ns r : List Int} {cs ds : List (Int × Int)} (n : Nat) (h : runN n (turned ns) = (cs, r)) (hp : pairs r = []) (hs : srtC cs = ds) : cyc (turned ns) = ds ∧ rst (turned ns) = r := by
  have h1 := run_rs n (turned ns)
  rw [h] at h1
  obtain ⟨e1, e2⟩ := cyc_is (turned_isT ns) h1 (pairs_nil.mp hp)
  exact ⟨by rw [← e1, ← hs], e2.symm⟩
open PySem in
def toI : List PyData → List Int
  | [] => []
  | .int i :: r => i :: toI r
  | _ :: r => 0 :: toI r
theorem toI_map : ∀ ns : List Int, toI (ns.map PySem.PyData.int) = ns
  | [] => rfl
  | n :: ns => by rw [List.map_cons]; show n :: toI _ = _; rw [toI_map ns]
open PySem in
def restC : PyData → Bool
  | .list ds => isRowD (.list ds) && (decide (turned (toI ds) = toI ds) && (pairs (toI ds)).isEmpty)
  | _ => false
open PySem in
theorem restD_eq (d : PyData) : restD d = restC d := by
  by_cases h : isRowD d = true
  · obtain ⟨ns, rfl, hok⟩ := isRowD_some h
    rw [restD_dI hok, ← restB_pairs]
    show _ = (isRowD (dI ns) && (decide (turned (toI (ns.map PyData.int)) = toI (ns.map PyData.int)) && (pairs (toI (ns.map PyData.int))).isEmpty))
    rw [h, toI_map, Bool.true_and]
  · have h : isRowD d = false := by simpa using h
    rw [restD_no h]
    cases d with
    | list ds => show false = (isRowD _ && _); rw [h]; rfl
    | _ => rfl
end Rf

namespace Dl
open PySem L2
/-! texts: f-strings, join -/
section
variable {X : Cx}
def tJo (ts : List TE) : TE := fun σ H Q => tJs ts Str.empty σ H fun z H1 => Q (.str z) H1
theorem pe_fst {v1 v2 : Expr} {rest : List Expr} {ts : List TE} {pos : Pos} (h : PJ X (v1 :: v2 :: rest) ts) : PE X (.JoinedStr (v1 :: v2 :: rest) pos) (tJo ts) := pe_joined h
def rJoin (K : PySem.W.Frag) : V → List V → Hp → VK → Prop := fun x xs H Q => ∃ (b : Str) (m : Addr), ∃ zs : List Str, x = .str b ∧ xs = [.ref m] ∧ (SqL K H m (zs.map V.str) ∨ SqT K H m (zs.map V.str)) ∧ (zs.map (·.length)).sum + zs.length * b.length ≤ 16777216 ∧ Q (.str (Txt.join b zs)) H
theorem pe_joinK {K : PySem.W.Frag} (h : X.K = K) {o e : Expr} {to te : TE} {apos pos : Pos} (ho : PE X o to) (he : PE X e te) (hs : starEach [e] X.env = [(false, eval e X.env)] := by rfl) (hbase : attributeBase o "join" X.env (eval o X.env) = eval o X.env := by rfl)
    (hline : (apos.endLine == pos.line) = true := by rfl) : PE X (.Call (.Attribute o "join" apos) [e] [] pos) (tM1 (rJoin K) to te) := by
  subst h
  exact pe_join ho he hs hbase hline
end
section
variable {ρ : Rho} {ta tb te : TE} {K : PySem.W.Frag}
theorem Dvs.strs {H : Hp} : ∀ (ns : List Str) (xs : List V), Dvs H xs (ns.map PyData.str) → xs = ns.map V.str
  | [], _, h => by cases h; rfl
  | n :: ns, _, h => by
    cases h with
    | cons h1 h2 =>
      cases h1
      rw [Dvs.strs ns _ h2]; rfl
theorem ed_fmt {i : Int} (h : ED te ρ (.int i)) (hi : i.natAbs.log2 < 1920) : ED (tFmt te) ρ (.str (toString i)) := fun G H σ w Q q =>
  h G H σ w _ fun v G1 H1 x1 h1 => by
    cases h1
    exact .inr ⟨i, rfl, hi, q _ G1 H1 x1 (.str _)⟩
def EJ : List TE → Str → Rho → Str → Prop
  | [], acc, _, z => acc = z
  | t :: ts, acc, ρ, z => ∃ y : Str, ED t ρ (.str y) ∧ (acc ++ y).length ≤ sizeLine ∧ EJ ts (acc ++ y) ρ z
theorem ej_go : ∀ (ts : List TE) (acc z : Str), EJ ts acc ρ z → ∀ G H σ, Vw G H σ ρ → ∀ Q : Str → Hp → Prop, (∀ G' H', Gr G H G' H' → Q z H') → tJs ts acc σ H Q
  | [], acc, z, h, G, H, σ, w, Q, q => by
    have h : acc = z := h
    subst h
    exact q G H (.refl w.e)
  | t :: ts, acc, z, ⟨y, h1, h2, h3⟩, G, H, σ, w, Q, q => h1 G H σ w _ fun v G1 H1 x1 hv => by
    cases hv
    exact ⟨y, rfl, h2, ej_go ts _ z h3 G1 H1 σ (w.grow x1) Q fun G2 H2 x2 => q G2 H2 (x1.trans x2)⟩
theorem ed_fst {ts : List TE} {z : Str} (h : EJ ts Str.empty ρ z) : ED (tJo ts) ρ (.str z) := fun G H σ w Q q => ej_go ts _ z h G H σ w _ fun G1 H1 x1 => q _ G1 H1 x1 (.str _)
theorem ed_join {b : Str} {ys : List Str} (ha : ED ta ρ (.str b)) (hb : ED tb ρ (.list (ys.map PyData.str))) (hz : (ys.map (·.length)).sum + ys.length * b.length ≤ 16777216) : ED (tM1 (rJoin K) ta tb) ρ (.str (Txt.join b ys)) := fun G H σ w Q q =>
  ha G H σ w _ fun v G1 H1 x1 h1 => by
    cases h1
    refine ⟨⟨_, rfl⟩, hb G1 H1 σ (w.grow x1) _ fun u G2 H2 x2 h2 => ?_⟩
    cases h2 with
    | @lst a xs _ k1 k2 =>
      have e := Dvs.strs _ _ k2
      subst e
      exact ⟨b, a, ys, rfl, rfl, .inl (SqL.of (x2.e _ _ k1)), hz, q _ G2 H2 (x1.trans x2) (.str _)⟩
end
/-! texts of small numbers -/
theorem numLen {i : Int} (h1 : -99 ≤ i) (h2 : i ≤ 99) : (Str.ofString (toString i)).length ≤ 3 := by
  have key : ∀ n : Fin 199, (Str.ofString (toString ((n.val : Int) - 99))).length ≤ 3 := by decide +kernel
  have := key ⟨(i + 99).toNat, by omega⟩
  rw [show (((i + 99).toNat : Int) - 99) = i from by omega] at this
  exact this
theorem numLog {i : Int} (h1 : -99 ≤ i) (h2 : i ≤ 99) : i.natAbs.log2 < 1920 := by
  have h3 : i.natAbs < 2 ^ 7 := by omega
  by_cases h0 : i.natAbs = 0
  · rw [h0]; decide
  · have := (Nat.log2_lt h0).mpr h3
    omega
def fmtP (p : Int × Int) : Str := ((Str.empty ++ (Str.ofString (toString p.1))) ++ "..") ++ (Str.ofString (toString p.2))
def fmtC (cs : List (Int × Int)) : Str := Txt.join " " (cs.map fmtP)
theorem fmtP_len {p : Int × Int} (h : (-99 ≤ p.1 ∧ p.1 ≤ 99) ∧ (-99 ≤ p.2 ∧ p.2 ≤ 99)) : (fmtP p).length ≤ 8 := by
  have l1 := numLen h.1.1 h.1.2
  have l2 := numLen h.2.1 h.2.2
  have e0 : (Str.empty : Str).length = 0 := rfl
  have e1 : ((".." : Str)).length = 2 := by decide +kernel
  unfold fmtP
  rw [Str.length_append, Str.length_append, Str.length_append]; omega
theorem fmt_sum : ∀ cs : List (Int × Int), (∀ p ∈ cs, (-99 ≤ p.1 ∧ p.1 ≤ 99) ∧ (-99 ≤ p.2 ∧ p.2 ≤ 99)) → ((cs.map fmtP).map (·.length)).sum ≤ 8 * cs.length
  | [], _ => by simp
  | p :: cs, h => by
    have h1 := fmtP_len (h p List.mem_cons_self)
    have h2 := fmt_sum cs fun q hq => h q (List.mem_cons_of_mem _ hq)
    simp only [List.map_cons, List.sum_cons, List.length_cons]
    omega
section
variable {C x pl : Addr} {M M' : MS} {ρ : Rho} {ds : List PyData} {d : PyData} {i : Nat}
/-- meter.m(..) in an expression -/
theorem edm_meth {m : Str} {E1 : XK} {tr : TA} {rel : MS → List PyData → MO → Prop} {post : MS → PyData → Prop} (q : ρ[i]? = some (Sl.prv (MeterR C x pl M))) (m1 : ¬ m = "stack") (m2 : ¬ m = "cycles") (m3 : ¬ m = "past") (h : EA tr ρ ds) (hr : rel M ds (.ok post)) (hf : ∀ M2 d2, post M2 d2 → M2 = M' ∧ d2 = d) :
    EDM (tMeth C m (PrM C rel) [] E1 (tVar i) tr) ρ (ρ.set i (.prv (MeterR C x pl M'))) d := fun Pv G0 H0 G H σ s Q k => by
  obtain ⟨hv, dx, sv, cv, pvs, e1, _⟩ := s.meter q
  refine ⟨_, hv, x, dx, _, rfl, e1, mfs_no _ _ _ m1 m2 m3, h G H σ s.vw _ fun ws G1 H1 x1 hw => ?_⟩
  obtain ⟨v, h1, hv1, hI, hsub, hdis, fin⟩ := (s.grow x1).res q
  rw [hv] at hv1; cases hv1
  refine ⟨G1, h1, x, pl, M, ws, ds, .ok post, by rw [List.append_nil], hI, hsub, hdis, x1.e, hw, hr, fun M2 d2 v2 G' H' h' hpo fm hI' hdom hs2 hg hd => ?_⟩
  obtain ⟨rfl, rfl⟩ := hf M2 d2 hpo
  exact k v2 G' H' (x1.g.trans fm.g) (fin G' H' h' _ fm hI' hdom hs2 hg) hd
end
end Dl

namespace Dl
open PySem PySem.Spec L2 Rf
/-! a comprehension with draws, over anything that is walked -/
theorem ex_lcI {ρ : Rho} {wi : TI} {te : TE} {P : PyData → Prop} {xs : List PyData} {i : Nat} (hi : EI wi ρ xs) (hn : xs.length < 16777216) (hu : ρ[i]? = some Sl.un) (hno : ∀ (j : Nat) ds, ρ[j]? ≠ some (Sl.own ds))
    (he : ∀ x ∈ xs, EX te (ρ.set i (.dat x)) P) : EX (tLc wi (gName i) tYes te [i]) ρ (fun d => ∃ ds, d = .list ds ∧ ds.length = xs.length ∧ ∀ d ∈ ds, P d) := fun Pv G0 H0 G H σ s Q q => by
  refine hi G H σ s.vw _ fun J G1 H1 x1 wk => fun D hD => ?_
  obtain ⟨fm1, vw1, hs1, p1⟩ := s.grow x1
  have h0D : H0 D = none := by
    cases e : H0 D with
    | none => rfl
    | some o => exact absurd hD (fm1.k D (by rw [e]; exact Option.some_ne_none _))
  refine ⟨fun j m H2 => m = xs.length - j ∧ j ≤ xs.length ∧ ∃ G2 acc ds hs, Same G1 G2 ∧ Fm Pv G0 H0 G2 H2 ∧ Vw G2 H2 σ ρ ∧ Pri Pv H0 G2 H2 σ ρ hs ∧ (∀ j, hs j D = none) ∧ G2 D = none ∧ H2 D = some (.lst acc) ∧ Dvs G2 acc ds ∧ ds.length = j ∧ ∀ d ∈ ds, P d,
    ⟨xs.length, by simp, Nat.zero_le _, G1, [], [], hs1, .refl _, fm1.grow (.hid x1.e hD), vw1.grow (.hid x1.e hD), p1.grow (.hid x1.e hD), fun j => ?_, x1.e.free hD, upd_same, .nil, rfl, fun d hd => by cases hd⟩, ?_⟩
  · cases e : hs1 j D with
    | none => rfl
    | some o => rw [(p1.hi j D o e).1] at hD; cases hD
  rintro j m H2 ⟨rfl, hle, G2, acc, ds, hs, s12, fm, vw, p, hsD, gD, hA, dA, dl, dP⟩
  have sH : Same G1 H2 := s12.trans fm.e
  by_cases hlt : j < xs.length
  · refine .inr ⟨wk.go j H2 sH hlt, fun H3 => j + 1 ≤ xs.length ∧ ∃ G2 acc ds hs, Same G1 G2 ∧ Fm Pv G0 H0 G2 H3 ∧ Vw G2 H3 σ ρ ∧ Pri Pv H0 G2 H3 σ ρ hs ∧ (∀ j, hs j D = none) ∧ G2 D = none ∧ H3 D = some (.lst acc) ∧ Dvs G2 acc ds ∧ ds.length = j + 1 ∧ ∀ d ∈ ds, P d,
      fun H3 z => ⟨xs.length - (j + 1), by omega, rfl, z⟩, fun x H3 y => ?_⟩
    obtain ⟨G3, x3, hx⟩ := wk.yl j xs[j] H2 x H3 sH (List.getElem?_eq_getElem hlt) y G2 s12 fm.e
    have fm3 := fm.grow x3
    have vw3 := vw.grow x3
    have p3 := p.grow x3
    have hA3 : H3 D = some (.lst acc) := x3.h _ _ hA
    have gD3 : G3 D = none := x3.f D gD (by rw [hA]; exact Option.some_ne_none _)
    -- the state anew
    have sb : Sta (fun a => ∃ j, hs j a ≠ none) G3 H3 G3 H3 σ ρ := ⟨.refl x3.e, vw3, hs, fun j ds z => absurd z (hno j ds), p3.pv, fun j a o z => ⟨(p3.hi j a o z).1, (p3.hi j a o z).2.1, .inl ⟨j, by rw [z]; exact Option.some_ne_none _⟩⟩, p3.dj⟩
    have e2 : (wipe σ [i]).set i (some x) = σ.set i (some x) := by show (σ.set i none).set i (some x) = _; rw [List.set_set]
    show wipe ((wipe σ [i]).set i (some x)) [i] = wipe σ [i] ∧ _
    refine ⟨by show (((σ.set i none).set i (some x)).set i none) = σ.set i none; rw [List.set_set, List.set_set], ?_⟩
    rw [e2]
    refine et_yes G3 H3 _ (sb.set hx).vw _ fun H4 x4 => iteT ?_
    have sb4 : Sta (fun a => ∃ j, hs j a ≠ none) G3 H3 G3 H4 (σ.set i (some x)) (ρ.set i (.dat xs[j])) := (sb.set hx).more x4
    refine he xs[j] (List.getElem_mem hlt) _ G3 H3 G3 H4 _ sb4 _ fun v d G5 H5 pd e35 s5 hv => ?_
    obtain ⟨fm5, vw5, hs5, p5⟩ := s5
    have nD : ¬ ∃ j, hs j D ≠ none := fun ⟨j, z⟩ => z (hsD j)
    have hA5 : H5 D = some (.lst acc) := fm5.h D _ nD hA3
    have gD5 : G5 D = none := fm5.f D gD3 (by rw [hA3]; exact Option.some_ne_none _)
    have pvb : ∀ a, (∃ j, hs j a ≠ none) → Pv a ∨ H0 a = none := fun a ⟨j, z⟩ => by
      cases e : hs j a with
      | none => exact absurd e z
      | some o => exact (p.hi j a o e).2.2
    have h03 : ∀ a, H3 a = none → H0 a = none := fun a z => by
      cases e : H0 a with
      | none => rfl
      | some o => exact absurd z (fm3.k a (by rw [e]; exact Option.some_ne_none _))
    have hs5D : ∀ j, hs5 j D = none := fun j => by
      cases e : hs5 j D with
      | none => rfl
      | some o =>
        rcases (p5.hi j D o e).2.2 with z | z
        · exact absurd z nD
        · rw [hA3] at z; cases z
    have se : Same G5 (upd H5 D (.lst (acc ++ [v]))) := fun b o z => by rw [upd_ne (ne_of_none z gD5)]; exact fm5.e b o z
    have hlen := dA.len
    refine ⟨acc, hA5, by rw [hlen, dl]; exact size_lt (by omega), hlt, G5, acc ++ [v], ds ++ [d], hs5, (s12.trans x3.g).trans e35, ⟨fm3.g.trans e35, fun a o np z => ?_, fun a z => ?_, se, fun a z1 z2 => ?_⟩, ⟨se, vw.ln, fun j' d' z => ?_⟩, ⟨fun j ds z => absurd z (hno j ds), fun j' R z => ?_, fun j' a o z => ?_, p5.dj⟩, hs5D, gD5, upd_same, (dA.up (x3.g.trans e35)).app (.cons hv .nil), by rw [List.length_append, dl]; rfl, fun d' hd' => ?_⟩
    · rw [upd_ne (fun w => by rw [w, h0D] at z; cases z)]
      refine fm5.h a o (fun w => ?_) (fm3.h a o np z)
      rcases pvb a w with k | k
      · exact np k
      · rw [z] at k; cases k
    · have : a ≠ D := fun w => by rw [w] at z; exact z h0D
      rw [upd_ne this]
      exact fm5.k a (fm3.k a z)
    · exact fm5.f a (fm3.f a z1 z2) (fm3.k a z2)
    · obtain ⟨u, a1, a2⟩ := vw3.dt j' d' z
      exact ⟨u, a1, a2.up e35⟩
    · have hj : i ≠ j' := fun w => by rw [← w, hu] at z; cases z
      obtain ⟨u, a1, a2⟩ := p5.pv j' R (by rw [List.getElem?_set_ne hj]; exact z)
      exact ⟨u, by rw [List.getElem?_set_ne hj] at a1; exact a1, a2⟩
    · have ha : a ≠ D := fun w => by rw [w, hs5D] at z; cases z
      obtain ⟨a1, a2, a3⟩ := p5.hi j' a o z
      refine ⟨by rw [upd_ne ha]; exact a1, a2, ?_⟩
      rcases a3 with k | k
      · exact pvb a k
      · exact .inr (h03 a k)
    · rcases List.mem_append.mp hd' with hd' | hd'
      · exact dP d' hd'
      · rw [List.mem_singleton] at hd'; rw [hd']; exact pd
  · have e1 : j = xs.length := by omega
    subst e1
    refine .inl ⟨wk.st H2 sH, ?_⟩
    have sG : Same G2 (upd G2 D (.lst acc)) := fun b o z => by rw [upd_ne (ne_of_none z gD)]; exact z
    have se : Same (upd G2 D (.lst acc)) H2 := fun b o z => by
      by_cases hb : b = D
      · subst hb; rw [upd_same] at z; cases z; exact hA
      · rw [upd_ne hb] at z; exact fm.e b o z
    refine q (.ref D) (.list ds) (upd G2 D (.lst acc)) H2 ⟨ds, rfl, dl, dP⟩ ((x1.g.trans s12).trans sG) ⟨⟨fm.g.trans sG, fm.h, fm.k, se, fun a z1 z2 => ?_⟩, ⟨se, vw.ln, fun j' d' z => ?_⟩, hs, fun j ds z => absurd z (hno j ds), fun j' R z => ?_, fun j' a o z => ?_, p.dj⟩ (.lst upd_same (dA.up sG))
    · have : a ≠ D := fun w => by rw [w] at z2; exact z2 h0D
      rw [upd_ne this]; exact fm.f a z1 z2
    · obtain ⟨u, a1, a2⟩ := vw.dt j' d' z
      exact ⟨u, a1, a2.up sG⟩
    · obtain ⟨u, a1, a2⟩ := p.pv j' R z
      exact ⟨u, a1, R.mono _ _ _ _ sG a2⟩
    · have ha : a ≠ D := fun w => by rw [w, hsD] at z; cases z
      obtain ⟨a1, a2, a3⟩ := p.hi j' a o z
      exact ⟨a1, by rw [upd_ne ha]; exact a2, a3⟩
/-! a meter as the second argument -/
def PrMid (C : Addr) (rel : MS → List PyData → MO → Prop) : Sp := fun vs H Q E => ∃ G h x pl M v0 w ds o, vs = [v0, .ref x, w] ∧ (MeterR C x pl M).inv (.ref x) G h ∧ Same h H ∧ (∀ a, h a ≠ none → G a = none) ∧ Same G H ∧ Dvs G [v0, w] ds ∧ rel M ds o ∧ MWish C x pl G H h Q E o
section
variable {C x pl : Addr} {M M' : MS} {E : XK} {P : Out → Prop} {t u : TS} {ρ ρ' : Rho} {ds : List PyData} {d d0 d1 d2 : PyData} {te ta tb t0 t2 : TE} {tt : TT} {tr : TA} {i : Nat} {K : PySem.W.Frag} {r : R2} {rel : MS → List PyData → MO → Prop} {X : Addr} {m : Str}
theorem sta_mid {n : Nat} {G H h : Hp} {v0 w : V} (hI : (MeterR C x pl M).inv (.ref x) G h) (hsub : Same h H) (hdis : ∀ a, h a ≠ none → G a = none) (e : Same G H) (h0 : Dv G v0 d0) (hw : Dv G w d) :
    Sta (fun a => h a ≠ none) G H G H (some v0 :: some (.ref x) :: some w :: List.replicate n none) (.dat d0 :: .prv (MeterR C x pl M) :: .dat d :: List.replicate n Sl.un) := by
  have nun : ∀ (j : Nat) (z : Sl), (List.replicate n Sl.un)[j]? = some z → z = .un := fun j z q => by
    rw [List.getElem?_replicate] at q
    split at q
    · cases q; rfl
    · cases q
  refine ⟨.refl e, ⟨e, by simp, fun j d' z => ?_⟩, fun j => if j = 1 then h else fun _ => none, fun j es z => ?_, fun j R z => ?_, fun j a o z => ?_, fun j k a hjk z => ?_⟩
  · match j, z with
    | 0, z => cases z; exact ⟨_, rfl, h0⟩
    | 1, z => cases z
    | 2, z => cases z; exact ⟨_, rfl, hw⟩
    | j + 3, z => cases nun j _ z
  · match j, z with
    | 0, z => cases z
    | 1, z => cases z
    | 2, z => cases z
    | j + 3, z => cases nun j _ z
  · match j, z with
    | 0, z => cases z
    | 1, z => cases z; exact ⟨_, rfl, by show (MeterR C x pl M).inv (.ref x) G (if 1 = 1 then h else _); rw [if_pos rfl]; exact hI⟩
    | 2, z => cases z
    | j + 3, z => cases nun j _ z
  · have z : (if j = 1 then h else fun _ => none) a = some o := z
    by_cases hi : j = 1
    · rw [if_pos hi] at z
      exact ⟨hsub a o z, hdis a (by rw [z]; exact Option.some_ne_none _), .inl (by show h a ≠ none; rw [z]; exact Option.some_ne_none _)⟩
    · rw [if_neg hi] at z; cases z
  · have z : (if j = 1 then h else fun _ => none) a ≠ none := z
    show (if k = 1 then h else fun _ => none) a = none
    by_cases hk : k = 1
    · rw [if_neg (fun w => hjk (w.trans hk.symm))] at z; exact absurd rfl z
    · rw [if_neg hk]
/-- a body that ends well, the meter in the second slot -/
theorem mid_ok {n : Nat} {G H h : Hp} {v0 w : V} {Q : VK} {post : MS → PyData → Prop} (hI : (MeterR C x pl M).inv (.ref x) G h) (hsub : Same h H) (hdis : ∀ a, h a ≠ none → G a = none) (e : Same G H) (h0 : Dv G v0 d0) (hw : Dv G w d) (q : MWish C x pl G H h Q E (.ok post))
    (hb : SO E t (.dat d0 :: .prv (MeterR C x pl M) :: .dat d :: List.replicate n Sl.un) (fun o => ∃ s r M' d', o = .ret (s :: .prv (MeterR C x pl M') :: r) d' ∧ post M' d')) : t { nx := fun _ H' => Q .non H', rt := Q } (some v0 :: some (.ref x) :: some w :: List.replicate n none) H := by
  refine hb _ _ _ _ _ _ _ (sta_mid hI hsub hdis e h0 hw) ⟨fun _ _ _ _ p => ?_, fun _ _ _ _ p => ?_, fun _ _ _ _ p => ?_, fun ρ σ d' v G' H' p _ s hv => ?_, fun _ _ _ _ _ _ _ p => ?_, fun _ _ _ p => ?_⟩
  · obtain ⟨_, _, _, _, z, _⟩ := p; cases z
  · obtain ⟨_, _, _, _, z, _⟩ := p; cases z
  · obtain ⟨_, _, _, _, z, _⟩ := p; cases z
  · obtain ⟨_, r, M', d2, z, hpo⟩ := p
    cases z
    obtain ⟨fm, vw, hs, pr⟩ := s
    obtain ⟨v0, _, hI'⟩ := pr.pv 1 _ rfl
    obtain ⟨rfl, _⟩ := id hI'
    refine q M' _ v G' H' (hs 1) hpo fm hI' (fun a z => ?_) (fun a o z => (pr.hi 1 a o z).1) (fun a z => ?_) hv
    · cases w : hs 1 a with
      | none => exact absurd w z
      | some o => exact (pr.hi 1 a o w).2.2
    · cases w : hs 1 a with
      | none => exact absurd w z
      | some o => exact (pr.hi 1 a o w).2.1
  · obtain ⟨_, _, _, _, z, _⟩ := p; cases z
  · obtain ⟨_, _, _, _, z, _⟩ := p; cases z
/-- a run that only reads, and raises X -/
def RO (E : XK) (t : TS) (ρ : Rho) (X : Addr) : Prop := ∀ Pv G0 H0 G H σ D, Sta Pv G0 H0 G H σ ρ → (∀ H', Same H H' → E (.ref X) none H') → t D σ H
theorem ro_no (h : ET tt (fz ρ) false) (k : RO E u ρ X) : RO E (tSeq (tIfS tt t tNext) u) ρ X := fun Pv G0 H0 G H σ D s q => h H H σ s.fz _ fun H' e => iteF (k Pv G0 H0 G H' σ D (s.more e) fun H2 e2 => q H2 (e.trans e2))
theorem ro_retIf {b : Bool} (h : ET tt (fz ρ) b) (h1 : b = true → RO E (tRet ta) ρ X) (h2 : b = false → RO E (tRet tb) ρ X) : RO E (tRet (tIf tt ta tb)) ρ X := fun Pv G0 H0 G H σ D s q => h H H σ s.fz _ fun H' e => by
  cases b with
  | true => exact iteT (h1 rfl Pv G0 H0 G H' σ D (s.more e) fun H2 e2 => q H2 (e.trans e2))
  | false => exact iteF (h2 rfl Pv G0 H0 G H' σ D (s.more e) fun H2 e2 => q H2 (e.trans e2))
theorem ro_meth (q : ρ[i]? = some (Sl.prv (MeterR C x pl M))) (m1 : ¬ m = "stack") (m2 : ¬ m = "cycles") (m3 : ¬ m = "past") (h : EA tr ρ ds) (hr : rel M ds (.er X)) : RO E (tRet (tMethE C m (PrM C rel) (WE fun cls d _ H => E cls d H) (tVar i) tr)) ρ X := fun Pv G0 H0 G H σ D s k => by
  obtain ⟨hv, dx, sv, cv, pvs, e1, _⟩ := s.meter q
  refine ⟨_, hv, x, dx, _, rfl, e1, mfs_no _ _ _ m1 m2 m3, h G H σ s.vw _ fun ws G1 H1 x1 hw => ?_⟩
  obtain ⟨v, h1', hv1, hI, hsub, hdis, fin⟩ := (s.grow x1).res q
  rw [hv] at hv1; cases hv1
  exact ⟨G1, h1', x, pl, M, ws, ds, .er X, rfl, hI, hsub, hdis, x1.e, hw, hr, fun H' e => k H' (x1.h.trans e)⟩
/-- f(a, meter, b) in a try -/
theorem tb_mid (q : ρ[i]? = some (Sl.prv (MeterR C x pl M))) (h0 : ED t0 ρ d0) (h2 : ED t2 ρ d2) (hr : rel M [d0, d2] (.er X)) (hp : P (.exc X)) : TB (fun Z => tDrop (tCallS (PrMid C rel) (WE Z) (tCons t0 (tCons (tVar i) (tCons t2 tNil))))) ρ P := fun Pv G0 H0 G H σ D Z s k xx => by
  obtain ⟨hv, _⟩ := s.meter q
  refine h0 G H σ s.vw _ fun v0 G1 H1 x1 hd0 => ⟨_, hv, h2 G1 H1 σ (s.vw.grow x1) _ fun w G2 H2 x2 hd2 => ?_⟩
  obtain ⟨v, h1', hv1, hI, hsub, hdis, fin⟩ := ((s.grow x1).grow x2).res q
  rw [hv] at hv1; cases hv1
  exact ⟨G2, h1', x, pl, M, v0, w, [d0, d2], .er X, rfl, hI, hsub, hdis, x2.e, .cons (hd0.up x2.g) (.cons hd2 .nil), hr, fun H' e => xx X H' hp ((x1.h.trans x2.h).trans e)⟩
/-- f(a, meter, b) -/
theorem edm_mid {E1 : XK} {post : MS → PyData → Prop} (q : ρ[i]? = some (Sl.prv (MeterR C x pl M))) (h0 : ED t0 ρ d0) (h2 : ED t2 ρ d2) (hr : rel M [d0, d2] (.ok post)) (hf : ∀ M2 d3, post M2 d3 → M2 = M' ∧ d3 = d) :
    EDM (tCall (PrMid C rel) [] E1 (tCons t0 (tCons (tVar i) (tCons t2 tNil)))) ρ (ρ.set i (.prv (MeterR C x pl M'))) d := fun Pv G0 H0 G H σ s Q k => by
  obtain ⟨hv, _⟩ := s.meter q
  refine h0 G H σ s.vw _ fun v0 G1 H1 x1 hd0 => ⟨_, hv, h2 G1 H1 σ (s.vw.grow x1) _ fun w G2 H2 x2 hd2 => ?_⟩
  obtain ⟨v, h1', hv1, hI, hsub, hdis, fin⟩ := ((s.grow x1).grow x2).res q
  rw [hv] at hv1; cases hv1
  refine ⟨G2, h1', x, pl, M, v0, w, [d0, d2], .ok post, rfl, hI, hsub, hdis, x2.e, .cons (hd0.up x2.g) (.cons hd2 .nil), hr, fun M2 d3 v2 G' H' h' hpo fm hI' hdom hs2 hg hd => ?_⟩
  obtain ⟨rfl, rfl⟩ := hf M2 d3 hpo
  exact k v2 G' H' ((x1.g.trans x2.g).trans fm.g) (fin G' H' h' _ fm hI' hdom hs2 hg) hd
/-- meter.m(..), a statement -/
theorem so_methP {E1 : XK} {post : MS → PyData → Prop} (q : ρ[i]? = some (Sl.prv (MeterR C x pl M))) (m1 : ¬ m = "stack") (m2 : ¬ m = "cycles") (m3 : ¬ m = "past") (h : EA tr ρ ds) (hr : rel M ds (.ok post)) (hp : ∀ M2 d2, post M2 d2 → P (.nxt (ρ.set i (.prv (MeterR C x pl M2))))) :
    SO E (tDrop (tMeth C m (PrM C rel) [] E1 (tVar i) tr)) ρ P := fun Pv G0 H0 G H σ D s k => by
  obtain ⟨hv, dx, sv, cv, pvs, e1, _⟩ := s.meter q
  refine ⟨_, hv, x, dx, _, rfl, e1, mfs_no _ _ _ m1 m2 m3, h G H σ s.vw _ fun ws G1 H1 x1 hw => ?_⟩
  obtain ⟨v, h1, hv1, hI, hsub, hdis, fin⟩ := (s.grow x1).res q
  rw [hv] at hv1; cases hv1
  refine ⟨G1, h1, x, pl, M, ws, ds, .ok post, by rw [List.append_nil], hI, hsub, hdis, x1.e, hw, hr, fun M2 d2 v2 G' H' h' hpo fm hI' hdom hs2 hg hd => ?_⟩
  exact k.nx _ _ G' H' (hp M2 d2 hpo) (x1.g.trans fm.g) (fin G' H' h' _ fm hI' hdom hs2 hg)
/-! methods that only read and give a new list -/
def PrRoN (C : Addr) (f : MS → List PyData) : Sp := fun vs H Q _ => ∃ x M, vs = [.ref x] ∧ MeterAt C H x M ∧ ∀ p xs H', Same H H' → H p = none → H' p = some (.lst xs) → Dvs H' xs (f M) → Q (.ref p) H'
theorem edr_methN {f : MS → List PyData} {E1 : XK} (q : ρ[i]? = some (Sl.prv (MeterR C x pl M))) (h1 : ¬ m = "stack") (h2 : ¬ m = "cycles") (h3 : ¬ m = "past") : EDR (tMeth C m (PrRoN C f) [] E1 (tVar i) tNil) ρ (.list (f M)) := fun Pv G0 H0 G H σ s Q k => by
  obtain ⟨hv, dx, sv, cv, pvs, e1, e2, _⟩ := s.meter q
  exact ⟨_, hv, x, dx, _, rfl, e1, mfs_no _ _ _ h1 h2 h3, x, M, rfl, s.mAt q, fun p xs H' e _ hp hd => k _ H' e (.lst hp hd)⟩
/-- meter.m().append(e) -/
theorem so_mApp {f : MS → List PyData} {E1 : XK} (q : ρ[i]? = some (Sl.prv (MeterR C x pl M))) (h1 : ¬ m = "stack") (h2 : ¬ m = "cycles") (h3 : ¬ m = "past") (hl : (f M).length < 16777216) (he : ED te ρ d) (hp : P (.nxt ρ)) :
    SO E (tDrop (tBM K "list" rAppend (tMeth C m (PrRoN C f) [] E1 (tVar i) tNil) (tCons te tNil))) ρ P := fun Pv G0 H0 G H σ D s k => by
  obtain ⟨hv, dx, sv, cv, pvs, e1, e2, _⟩ := s.meter q
  refine ⟨_, hv, x, dx, _, rfl, e1, mfs_no _ _ _ h1 h2 h3, x, M, rfl, s.mAt q, fun p xs H1 e hpn hp1 hd => ⟨.inl ⟨rfl, _, SqL.of hp1⟩, ?_⟩⟩
  have s1 := s.more e
  refine he G H1 σ s1.vw _ fun v G2 H2 x2 _ => ⟨p, xs, v, rfl, rfl, x2.h _ _ hp1, by rw [hd.len]; exact size_lt hl, ?_⟩
  exact k.nx _ _ G _ hp (.refl _) (s.more (same_new2 (e.trans x2.h) hpn))
/-! values that change the state -/
theorem edm_opR (h1 : EDM ta ρ ρ' d1) (h2 : EDR tb ρ' d2) (hr : RD r d1 d2 d) (hd : Sca d) : EDM (tOp r ta tb) ρ ρ' d := fun Pv G0 H0 G H σ s Q q =>
  h1 Pv G0 H0 G H σ s _ fun v G1 H1 e1 s1 hv => h2 Pv G0 H0 G1 H1 σ s1 _ fun w H2 x2 hw => hr H2 H2 v w (.refl _) ((hv.up s1.fm.e).up x2) hw _ fun z G3 H3 x3 hz => q z G1 H3 e1 (s1.more (x2.trans x3.h)) (hd.dv hz)
theorem edm_and1 {b : Bool} (h1 : EDR ta ρ (.bool true)) (h2 : EDM tb ρ ρ' (.bool b)) : EDM (tAndV ta tb) ρ ρ' (.bool b) := fun Pv G0 H0 G H σ s Q q => h1 Pv G0 H0 G H σ s _ fun v H1 x1 hv => by
  cases hv
  exact ⟨true, rfl, iteT (h2 Pv G0 H0 G H1 σ (s.more x1) Q q)⟩
theorem edm_and2 {b : Bool} (h1 : EDM ta ρ ρ' (.bool true)) (h2 : EDR tb ρ' (.bool b)) : EDM (tAndV ta tb) ρ ρ' (.bool b) := fun Pv G0 H0 G H σ s Q q => h1 Pv G0 H0 G H σ s _ fun v G1 H1 e1 s1 hv => by
  cases hv
  refine ⟨true, rfl, iteT (h2 Pv G0 H0 G1 H1 σ s1 Q fun z H2 x2 hz => ?_)⟩
  cases hz
  exact q _ G1 H2 e1 (s1.more x2) (.bl b)
theorem so_retM (h : EDM te ρ ρ' d) (hp : P (.ret ρ' d)) : SO E (tRet te) ρ P := fun Pv G0 H0 G H σ D s k => h Pv G0 H0 G H σ s _ fun v G1 H1 e1 s1 hv => k.rt _ _ d v G1 H1 hp e1 s1 hv
end
theorem ex_tup {ρ : Rho} {t2 : TA} {PA : List PyData → Prop} (h : EXA t2 ρ PA) (hl : ∀ ds, PA ds → ds.length ≤ 16777216) : EX (tTup t2) ρ (fun d => ∃ ds, d = .tuple ds ∧ PA ds) := fun Pv G0 H0 G H σ s Q q =>
  h Pv G0 H0 G H σ s _ fun vs ds G' H' p e s' hv => ⟨size_of (by rw [hv.len]; exact hl ds p), fun l hn => by
    have x := Gr.new (o := .tup vs) s'.fm.e hn
    exact q _ (.tuple ds) _ _ ⟨ds, rfl, p⟩ (e.trans x.g) (s'.grow x) (.tup upd_same (hv.up x.g))⟩
theorem edr_is {ρ : Rho} {te : TE} {d d1 : PyData} (h : EDR te ρ d) (e : d = d1) : EDR te ρ d1 := e ▸ h
theorem edm_is {ρ ρ' : Rho} {te : TE} {d d1 : PyData} (h : EDM te ρ ρ' d) (e : d = d1) : EDM te ρ ρ' d1 := e ▸ h
/-! lists of texts -/
section
variable {K : PySem.W.Frag} {ρ : Rho} {te tb : TE}
theorem pl_sts {xs : List Str} (h : xs.all PyData.strOk = true) : Pl 1 (.list (xs.map PyData.str)) := pl_list fun d hd => by
  obtain ⟨x, hx, rfl⟩ := List.mem_map.mp hd
  exact pl_str (List.all_eq_true.mp h x hx)
theorem eqv_sts : ∀ xs : List Str, PyData.eqvAll (xs.map PyData.str) (xs.map PyData.str) = true
  | [] => by simp [PyData.eqvAll]
  | x :: xs => by rw [List.map_cons]; simp only [PyData.eqvAll, eqv_sts xs, Bool.and_true, PyData.eqv]; simp
/-- the same texts on both sides -/
theorem et_sts {xs : List Str} (hx : xs.all PyData.strOk = true) (h : ED te ρ (.list (xs.map PyData.str))) (h2 : ED tb ρ (.list (xs.map PyData.str))) : ET (tTest (tOp (rNeD K) te tb)) ρ false :=
  et_is (et_test (ed_op h h2 (rd_ne (n := 1) (m := 1) (pl_sts hx) (pl_sts hx)))) (by show (!PyData.eqvAll _ _) = false; rw [eqv_sts]; rfl)
theorem rd_neSts {xs : List Str} (hx : xs.all PyData.strOk = true) : RD (rNeD K) (.list (xs.map PyData.str)) (.list (xs.map PyData.str)) (.bool false) := rd_is (rd_ne (n := 1) (m := 1) (pl_sts hx) (pl_sts hx)) (by show PyData.bool (!PyData.eqvAll _ _) = _; rw [eqv_sts]; rfl)
theorem rd_eqSts {xs : List Str} (hx : xs.all PyData.strOk = true) : RD (rEqD K) (.list (xs.map PyData.str)) (.list (xs.map PyData.str)) (.bool true) := rd_is (rd_eq (n := 1) (m := 1) (pl_sts hx) (pl_sts hx)) (by show PyData.bool (PyData.eqvAll _ _) = _; rw [eqv_sts])
theorem sq_noX {E : XK} {t u : TS} {r : R2} {R : Out → Prop} {ta : TE} (h : EX (tOp r ta tb) ρ (· = .bool false)) (k : SO E u ρ R) : SO E (tSeq (tIfS (tTest (tOp r ta tb)) t tNext) u) ρ R := so_seq fun Pv G0 H0 G H σ D s q =>
  h Pv G0 H0 G H σ s _ fun v d G' H' p e s' hv => by
    subst p
    cases hv
    exact ⟨false, rfl, iteF (so_next k Pv G0 H0 G' H' σ D s' (q.up e))⟩
end
end Dl

namespace Dl
open PySem PySem.Spec PyProof.Rows L2 LamX
/-! sorted(xs, key=lambda one: one[0] - one[1]) -/
section
variable {prog : Program} {w : World} {A : Around} {s : Shared} {E : Value → Shared → Prop}
/-- x[i] of a pair, x a local name -/
theorem ix_raw {env : Env} {x : Str} {m : Str → Option Value} {t : Addr} {its : Array Value} {i : Nat} {u : Value} {j1 : Nat} {p1 p2 p3 : Pos} {Q : Value → Shared → Prop} (hk : env.scope.kind = .function) (hl : env.kindOf x = some .local) (hn : s.heap.Ns env.locals m) (hm : m x = some (.ref t)) (ht : IsTup s.heap t its)
    (hi : i < 1000) (hz : seqIndex? (i : Int) its.size = some i) (hu : its[i]? = some u) (hx : (x == ("__debug__" : Str)) = false) (h : ∀ tk, Q u { s with toks := tk }) :
    wpAny (model prog w) A (eval (.Subscript (.Name x p1) (.Constant (.int i) j1 p2) p3) env) Q E s := by
  refine Subscript_ (wpAny_Name (wpAny_loadName_local hk hl hn hm ?_) hx)
  refine wpAny_Constant_int ?_
  refine subscriptTail_builtinR (x := u) ht.typeIs slot_tuple_getitem.lookup (getItem_tuple (j := i) (Q := fun r s' => r = u ∧ Q r s') ht (by omega) (by omega) hz hu ⟨rfl, h _⟩) rfl
theorem lam_key {f c' t : Addr} {q x : Str} {params : Arguments} {scope : Scope} {pm ctv : Value} {a b : Int} {ka kb : Tok} {j1 j2 : Nat} {p1 p2 p3 p4 p5 p6 p7 : Pos}
    (ho : s.heap.get? f = some (PySem.W.kla_obj "<lambda>" q params (.BinOp (.Subscript (.Name x p1) (.Constant (.int 0) j1 p2) p3) .Sub (.Subscript (.Name x p4) (.Constant (.int 1) j2 p5) p6) p7) scope [] pm c' ctv))
    (hcd : s.heap.CodeRec (.ref c') q) (hroom : A.depth < recursionLimit) (lim : s.heap.NoLimit) (ht : IsTup s.heap t #[.int a ka, .int b kb])
    (hbind : bindArgs (PySem.W.kla_fn "<lambda>" q params (.BinOp (.Subscript (.Name x p1) (.Constant (.int 0) j1 p2) p3) .Sub (.Subscript (.Name x p4) (.Constant (.int 1) j2 p5) p6) p7) scope [] pm (.ref c') ctv) ⟨[.ref t], []⟩ = pure [(x, .ref t)])
    (hco : scope.isCoroutine = false) (hgen : scope.isGenerator = false) (hk : scope.kind = .function) (hcell : ∀ y ∈ scope.names, y.2 ≠ .cell) (hloc : scope.names.lookup x = some .local) (hx : (x == ("__debug__" : Str)) = false) :
    wpAny (model prog w) A (call (.ref f) [.ref t]) (PySem.W.KeyPure (.int (a - b)) s) (fun _ _ => False) s := by
  refine wpAny_call (PySem.W.kla_callFunE hroom ho rfl hco hgen rfl hcd ?_)
  rw [hbind]
  refine wpAny_pure (wpAny_newFunctionEnv hcell (fun y hy => by rw [List.mem_singleton] at hy; rw [hy]; exact hloc) (fun h₁ hns hsb => ⟨lim.fresh _ hsb, ?_⟩) hk)
  have kp : ∀ b o, s.heap.get? b = some o → h₁.get? b = some o := fun b o e => hsb.extBut b o (Nat.ne_of_lt (Heap.lt_size e)) (Heap.get?_push_of_some _ e)
  have ht1 : IsTup h₁ t #[.int a ka, .int b kb] := by
    obtain ⟨o, e1, e2⟩ := ht
    exact ⟨o, kp _ _ e1, e2⟩
  refine PySem.W.kla_codeExpr (wpAny_BinOp (ix_raw (i := 0) hk hloc hns (by simp) ht1 (by decide) rfl rfl hx fun tk1 => ix_raw (i := 1) hk hloc hns (by simp) ht1 (by decide) rfl rfl hx fun tk2 => sub_int ?_))
  exact ⟨h₁, _, rfl, kp, .int _ _⟩
end
section
variable {X : Cx} {pins : List (Addr × Obj)} {σ : L2.St} {H : Hp} {s : Shared}
/-- a lambda is made: the maker's table (in the part h) may grow -/
theorem lam_mk {c P : Addr} {q : Str} {h : Hp} {params : Arguments} {body : Expr} {scope : Scope} {pos : Pos} {E : Value → Shared → Prop} {Q : Value → Shared → Prop} (I : Inv X pins σ H s) (tb : TabB X.base X.mg c P) (hcode : X.env.code = .ref c) (hq : X.env.qual ++ "<lambda>" = q)
    (hT : TabS h P q) (hs : Same h H) (hdef : defaultsOf params X.env = ([], [])) (hfree : ∀ y ∈ scope.names, y.2 = .free → ∃ c, X.env.cells.lookup y.1 = some c)
    (k : ∀ (f c' : Addr) (pm cv2 : Value) (H1 h1 : Hp) (s' : Shared), Inv X pins σ H1 s' → (∀ b o, b ≠ P → H b = some o → H1 b = some o) → TabS h1 P q → Same h1 H1 → (∀ a, h1 a ≠ none → h a ≠ none ∨ H a = none) →
      s'.heap.get? f = some (PySem.W.kla_obj "<lambda>" q params body scope (cloFrom X.env.cells scope.names []) pm c' cv2) → s'.heap.CodeRec (.ref c') q → Q (.ref f) s') :
    wpAny (model X.prog X.w) X.A (eval (.Lambda params body scope pos) X.env) Q E s := by
  subst hq
  obtain ⟨ps, hP, ht, ha⟩ := hT
  have hPH := hs _ _ hP
  refine PySem.W.kla_eval hdef ?_
  have bAt : s.heap.BuiltinsAt X.mg P := tb.bm.keeps I.bk
  have hPs : s.heap.get? P = some { cls := .none, data := .fields ps } := I.hok P _ hPH
  cases hc : codeAmong pos ps.toList with
  | none =>
    refine PySem.W.kla_makeFunction (mg := X.mg) (c := c) (P := P) (ps := ps) (closure_ok hfree) I.ok.glob (I.mod.glob.keeps I.bk) hcode (tb.code.keeps I.bk) hPs ht hc tb.gP bAt fun c' cv2 h' tk hExt hGe hLt hRec hTb => ?_
    have hRec2 := hRec
    obtain ⟨k2, oK, fs, t, e2, hoK, hDat, hNam⟩ := hRec
    cases e2
    have nNew : H c' = none := I.hok.fresh hGe
    have nh : h c' = none := hs.free nNew
    have nPc : P ≠ c' := ne_of_none hPH nNew
    have J1 := inv_table (t' := tk) (more := #[rawInt pos.line, rawInt pos.col, .ref c']) (h' := h'.push (PySem.W.kla_obj "<lambda>" (X.env.qual ++ "<lambda>") params body scope (cloFrom X.env.cells scope.names []) ((X.mg "__name__").getD .none) c' cv2)) I hPH (fun b o hb e => Heap.get?_push_of_some _ (hExt b o hb e)) (Heap.get?_push_of_some _ hTb) hGe ⟨oK, fs, t, Heap.get?_push_of_some _ hoK, hDat, hNam⟩
    have eSn : (ps ++ #[rawInt pos.line, rawInt pos.col, .ref c']).toList = ps.toList ++ [rawInt pos.line, rawInt pos.col, .ref c'] := by simp
    refine k h'.objs.size c' ((X.mg "__name__").getD .none) cv2 _ (upd (upd h P (.tbl (ps ++ #[rawInt pos.line, rawInt pos.col, .ref c']))) c' (CodeO c' (X.env.qual ++ "<lambda>"))) _ J1 (fun b o hb e => ?_) ?_ (fun b o e => ?_) (fun a z => ?_) (Heap.get?_push_size _ rfl) ⟨c', oK, fs, t, rfl, Heap.get?_push_of_some _ hoK, hDat, hNam⟩
    · rw [upd_ne (ne_of_none e nNew), upd_ne hb]; exact e
    · refine ⟨_, by rw [upd_ne nPc, upd_same], by rw [eSn]; exact PySem.TriplesOk_snoc _ _ _ _ ht, fun pz cv hAm => ?_⟩
      rw [eSn] at hAm
      rcases among_app _ ht hAm with z | z
      · obtain ⟨k0, e1, e2⟩ := ha pz cv z
        exact ⟨k0, e1, by rw [upd_ne (ne_of_none e2 nh), upd_ne (fun w => codeO_ne ps (Option.some.inj (e2.symm.trans (by rw [w]; exact hP))))]; exact e2⟩
      · exact ⟨c', z, upd_same⟩
    · by_cases h1 : b = c'
      · subst h1; rw [upd_same] at e ⊢; exact e
      · rw [upd_ne h1] at e ⊢
        by_cases h2 : b = P
        · subst h2; rw [upd_same] at e ⊢; exact e
        · rw [upd_ne h2] at e ⊢; exact hs b o e
    · by_cases h1 : a = c'
      · exact .inr (by rw [h1]; exact nNew)
      · rw [upd_ne h1] at z
        by_cases h2 : a = P
        · exact .inl (by rw [h2, hP]; exact Option.some_ne_none _)
        · rw [upd_ne h2] at z; exact .inl z
  | some cv =>
    obtain ⟨c', e, hTold⟩ := ha pos cv hc
    subst e
    refine PySem.W.kla_makeFunctionHit (mg := X.mg) (c := c) (P := P) (ps := ps) (closure_ok hfree) I.ok.glob (I.mod.glob.keeps I.bk) hcode (tb.code.keeps I.bk) hPs ht hc bAt fun cv2 h' tk hExt hSz => ?_
    have J1 : Inv X pins σ H { s with heap := h'.push (PySem.W.kla_obj "<lambda>" (X.env.qual ++ "<lambda>") params body scope (cloFrom X.env.cells scope.names []) ((X.mg "__name__").getD .none) c' cv2), toks := tk } := I.kept fun b o e => Heap.get?_push_of_some _ (hExt b o e)
    obtain ⟨⟨oK, fs, t, hoK, hDat2, hNam2⟩, _, _⟩ := J1.hok c' _ (hs _ _ hTold)
    exact k h'.objs.size c' ((X.mg "__name__").getD .none) cv2 H h _ J1 (fun _ _ _ e => e) ⟨ps, hP, ht, ha⟩ hs (fun a z => .inl z) (Heap.get?_push_size _ rfl) ⟨c', oK, fs, t, rfl, hoK, hDat2, hNam2⟩
/-- the order of the key -/
def leW (k : V → Int × Int) (x y : V) : Bool := decide ((k x).1 - (k x).2 ≤ (k y).1 - (k y).2)
def tSrtL (K : PySem.W.Frag) (P : Addr) (q : Str) (t : TA) : TE := fun σ H Q => t σ H fun vs H0 => ∃ (a : Addr) (xs : List V) (k : V → Int × Int) (h : Hp), vs = [.ref a] ∧ SqL K H0 a xs ∧ (∀ x ∈ xs, ∃ t, x = .ref t ∧ H0 t = some (.tup [.int (k x).1, .int (k x).2])) ∧ TabS h P q ∧ Same h H0 ∧
  ∀ p H1 h1, H0 p = none → (∀ b o, b ≠ P → H0 b = some o → H1 b = some o) → TabS h1 P q → Same h1 H1 → (∀ a, h1 a ≠ none → h a ≠ none ∨ H0 a = none) → h1 p = none → H1 p = some (.lst (xs.mergeSort (leW k))) → Q (.ref p) H1
theorem each_of : ∀ {xs : List V} {us : List Value}, Vals xs us → PySem.W.EachIs (fun (u : Value) (x : V) => RelV x u) us xs
  | _, _, .nil => .nil
  | _, _, .cons r t => .cons r (each_of t)
theorem of_each : ∀ {xs : List V} {us : List Value}, PySem.W.EachIs (fun (u : Value) (x : V) => RelV x u) us xs → Vals xs us
  | _, _, .nil => .nil
  | _, _, .cons r t => .cons r (of_each t)
theorem pe_srtL {K : PySem.W.Frag} (hK : X.K = K) {c P : Addr} {q x : Str} {k : Nat} {e : Expr} {t : TA} {params : Arguments} {scope : Scope} {j1 j2 : Nat} {p pos lpos kpos p1 p2 p3 p4 p5 p6 p7 : Pos} (hg : Gl X "sorted") (hm : X.mg "sorted" = none) (hv : bootBuiltins "sorted" = some (.builtin "sorted")) (hr : Room k X.A) (ha : PA X [e] t)
    (tb : TabB X.base X.mg c P) (hcode : X.env.code = .ref c) (hq : X.env.qual ++ "<lambda>" = q) (hx : (x == ("__debug__" : Str)) = false)
    (hbind : ∀ (pm ctv v : Value) (c' : Addr), bindArgs (PySem.W.kla_fn "<lambda>" q params (.BinOp (.Subscript (.Name x p1) (.Constant (.int 0) j1 p2) p3) .Sub (.Subscript (.Name x p4) (.Constant (.int 1) j2 p5) p6) p7) scope [] pm (.ref c') ctv) ⟨[v], []⟩ = pure [(x, v)])
    (hsc : (scope.names.all fun y => !decide (y.2 = .cell) && !decide (y.2 = .free)) = true) (hclo : cloFrom X.env.cells scope.names [] = []) (hloc : scope.names.lookup x = some .local) (hco : scope.isCoroutine = false := by rfl) (hgen : scope.isGenerator = false := by rfl) (hkd : scope.kind = .function := by rfl)
    (hdef : defaultsOf params X.env = ([], []) := by rfl)
    (he : backTo pos (starEach [e] X.env) = (false, eval e X.env) :: backTo pos (starEach [] X.env) := by rfl) (hpl : (backTo pos (starEach [e] X.env)).any (·.1) = false := by rfl) :
    PE X (.Call (.Name "sorted" p) [e] [⟨some "key", .Lambda params (.BinOp (.Subscript (.Name x p1) (.Constant (.int 0) j1 p2) p3) .Sub (.Subscript (.Name x p4) (.Constant (.int 1) j2 p5) p6) p7) scope lpos, kpos⟩] pos) (tSrtL K P q t) := by
  subst hK
  refine ⟨fun pins s σ H Q I h => ?_⟩
  have hsc' := List.all_eq_true.mp hsc
  have hcell : ∀ y ∈ scope.names, y.2 ≠ .cell := fun y hy z => by have := hsc' y hy; rw [z] at this; simp at this
  have hfree : ∀ y ∈ scope.names, y.2 ≠ .free := fun y hy z => by have := hsc' y hy; rw [z] at this; simp at this
  refine wpAny_Call_Name_kw (ld_blt I hg hm hv ?_)
  refine PyProof.Rows.callWith_kw (thn (ha.run pos pins s σ H _ I h) fun us s1 ⟨vs, H1, I1, r1, q1⟩ => ?_) he hpl rfl rfl
  obtain ⟨a, xs, key, hh, rfl, hS, hxs, hT, hs, fin⟩ := q1
  obtain ⟨u, rfl, ru⟩ := vals1 r1
  obtain rfl : u = Value.ref a := ru
  show wpAny _ _ (evalAll ((do let v ← eval (.Lambda params (.BinOp (.Subscript (.Name x p1) (.Constant (.int 0) j1 p2) p3) .Sub (.Subscript (.Name x p4) (.Constant (.int 1) j2 p5) p6) p7) scope lpos) X.env; standAt pos; pure v) :: [])) _ _ s1
  refine wpAny_evalAll_cons (wpAny_bind (lam_mk I1 tb hcode hq hT hs hdef (fun y hy z => absurd z (hfree y hy)) fun f c' pm ctv H2 h2 s2 I2 eH T2 sm dom hf hcd => wpAny_bind (wpAny_standAt (wpAny_pure (wpAny_evalAll_nil ?_)))))
  rw [hclo] at hf
  obtain ⟨psP, hP1, _⟩ := id hT
  have hPH : H1 P = some (.tbl psP) := hs _ _ hP1
  obtain ⟨psQ, hP2, _⟩ := id T2
  have hPH2 : H2 P = some (.tbl psQ) := sm _ _ hP2
  have hS2 : SqL X.K H2 a xs := by
    rcases hS with (z | ⟨o, z⟩) | z
    · exact .inl (.inl (eH a _ (fun w => by rw [w, hPH] at z; cases z) z))
    · exact .inl (.inr ⟨o, eH a _ (fun w => by rw [w, hPH] at z; cases z) z⟩)
    · exact .inr z
  obtain ⟨its, rv, hl, hz⟩ := I2.list hS2
  have hun := hr.un
  refine PySem.W.sorted_key_data (b := false) (R := fun (u : Value) (x : V) => RelV x u) (fun x : V => .int ((key x).1 - (key x).2)) hl.isList (each_of rv) (PySem.W.AllAlike.of fun _ _ => rfl) (PySem.W.Sortable.others fun _ => ⟨(fun z => by cases z), fun _ z => by cases z⟩) hz (fun x _ => by show X.A.units + 2 + 0 < cLine; omega) (PyProof.Rows.ksk_s1 _ _) (fun y => PyProof.Rows.ksk_l1 _ _) (fun y => PyProof.Rows.ksk_t1 f y) (fun v y hR hy h' tk kp => ?_) (fun out cc h' tk kp hfr hD hlen hE => ?_)
  · obtain ⟨t, rfl, ht⟩ := hxs y hy
    obtain rfl : v = Value.ref t := hR
    have I3 := I2.kept (t' := tk) kp
    have nt : t ≠ P := fun w => by rw [w, hPH] at ht; cases ht
    obtain ⟨its2, r2, hp2, _⟩ := I3.tuple (SqT.of (eH _ _ nt ht))
    obtain ⟨u1, u2, rfl, ri, rj⟩ := vals2 r2
    obtain ⟨t1, rfl⟩ := ri
    obtain ⟨t2, rfl⟩ := rj
    have hrc : h'.CodeRec (.ref c') q := by
      obtain ⟨c2, oc, vs, tt, e2, hoc, hd, hv⟩ := hcd
      exact ⟨c2, oc, vs, tt, e2, kp _ _ hoc, hd, hv⟩
    exact lam_key (s := { s2 with heap := h', toks := tk }) (kp _ _ hf) hrc (show X.A.depth < _ from hr.depth) I3.nolimit hp2 (hbind _ _ _ _) hco hgen hkd hcell hloc hx
  · have hge : s2.heap.objs.size ≤ s2.heap.objs.size + 1 := Nat.le_succ _
    have n2 : H2 (s2.heap.objs.size + 1) = none := I2.hok.fresh hge
    have n1 : H1 (s2.heap.objs.size + 1) = none := by
      cases z : H1 (s2.heap.objs.size + 1) with
      | none => rfl
      | some o =>
        by_cases w : s2.heap.objs.size + 1 = P
        · rw [w, hPH2] at n2; cases n2
        · rw [eH _ _ w z] at n2; cases n2
    rw [PySem.W.dataLe_int (fun x : V => (key x).1 - (key x).2)] at hE
    have hV := of_each hE
    have hln := hV.length
    refine ⟨.ref (s2.heap.objs.size + 1), upd H2 (s2.heap.objs.size + 1) (.lst (xs.mergeSort (leW key))), I2.laid (t' := tk) kp hge ⟨?_, out, cc, hV, hD⟩, rfl, fin _ _ h2 n1 (fun b o hb z => ?_) T2 (fun b o z => ?_) dom ?_ upd_same⟩
    · rw [List.length_mergeSort]; exact hz
    · rw [upd_ne (ne_of_none z n1)]; exact eH b o hb z
    · have zz := sm b o z
      rw [upd_ne (ne_of_none zz n2)]; exact zz
    · exact sm.free n2
end
end Dl

namespace Dl
open PySem PySem.Spec L2 LamX Rf
/-! the table of a def that makes lambdas, as a resource -/
def TabR (P : Addr) (q : Str) : Res := ⟨fun _ _ h => TabS h P q, fun _ _ _ _ _ x => x⟩
inductive TOut where
  | ok (post : PyData → Prop)
  | er (C : Addr)
def TWish (P : Addr) (q : Str) (G H h : Hp) (Q : VK) (E : XK) : TOut → Prop
  | .ok post => ∀ d v G' H' h', post d → Fm (fun a => h a ≠ none) G H G' H' → TabS h' P q → (∀ a, h' a ≠ none → h a ≠ none ∨ H a = none) → Same h' H' → (∀ a, h' a ≠ none → G' a = none) → Dv G' v d → Q v H'
  | .er C => ∀ H', Same H H' → E (.ref C) none H'
def PrT (P : Addr) (q : Str) (rel : List PyData → TOut → Prop) : Sp := fun vs H Q E => ∃ G h ds o, TabS h P q ∧ Same h H ∧ (∀ a, h a ≠ none → G a = none) ∧ Same G H ∧ Dvs G vs ds ∧ rel ds o ∧ TWish P q G H h Q E o
theorem prt_len {P : Addr} {q : Str} {rel : List PyData → TOut → Prop} {vs : List V} {H : Hp} {Q : VK} {E : XK} {n : Nat} (h : PrT P q rel vs H Q E) (hl : ∀ ds o, rel ds o → ds.length = n) : vs.length = n := by
  obtain ⟨G, h, ds, o, _, _, _, _, hv, hr, _⟩ := h
  rw [hv.len]; exact hl ds o hr
theorem set_same {ρ : Rho} {i : Nat} {z : Sl} (h : ρ[i]? = some z) : ρ.set i z = ρ := by
  apply List.ext_getElem?
  intro j
  by_cases hj : i = j
  · subst hj
    rw [List.getElem?_set_self (List.getElem?_eq_some_iff.mp h).1, h]
  · rw [List.getElem?_set_ne hj]
section
variable {P : Addr} {q : Str} {G H h : Hp} {Q : VK} {E : XK} {ρ : Rho} {i : Nat} {rel : List PyData → TOut → Prop} {post : PyData → Prop} {ds : List PyData} {d : PyData} {ta : TA}
theorem TWish.std (hT : TabS h P q) (hs : Same h H) (hdis : ∀ a, h a ≠ none → G a = none) (w : TWish P q G H h Q E (.ok post)) (hd : post d) : Wish G H Q E (.ok d) := fun v G' H' x hv =>
  w d v G' H' h hd ⟨x.g, fun a o _ z => x.h a o z, fun a z => same_ne x.h z, x.e, x.f⟩ hT (fun a z => .inl z) (hs.trans x.h) (fun a z => x.f a (hdis a z) (same_ne hs z)) hv
/-- f(..) that may write the table -/
theorem ex_tab {E1 : XK} {PA : List PyData → Prop} (q0 : ρ[i]? = some (Sl.prv (TabR P q))) (h : EXA ta ρ PA) (hr : ∀ ds, PA ds → rel ds (.ok post)) : EX (tCall (PrT P q rel) [] E1 ta) ρ post := fun Pv G0 H0 G H σ s Q k =>
  h Pv G0 H0 G H σ s _ fun vs ds G1 H1 p e s1 hv => by
    obtain ⟨v, h1, hv1, hI, hsub, hdis, fin⟩ := s1.res q0
    refine ⟨G1, h1, ds, .ok post, hI, hsub, hdis, s1.fm.e, by rw [List.append_nil]; exact hv, hr ds p, fun d u G' H' h' hd fm hT dom sm dj hu => ?_⟩
    have s2 := fin G' H' h' (TabR P q) fm hT dom sm dj
    rw [set_same q0] at s2
    exact k u d G' H' hd (e.trans fm.g) s2 hu
end
/-! a run in two parts: the list that is walked comes from the sort -/
section
variable {Pv : Addr → Prop} {G0 H0 G H : Hp} {σ : St} {ρ ρ' : Rho} {E : XK} {P : Out → Prop} {D : Ends}
theorem at_step {s u : TS} (h : SO E s ρ (fun o => o = .nxt ρ')) (st : Sta Pv G0 H0 G H σ ρ) (k : ∀ σ' G' H', Sta Pv G0 H0 G' H' σ' ρ' → u D σ' H') : tSeq s u D σ H :=
  h Pv G0 H0 G H σ { D with nx := u D } st ⟨(fun _ σ1 G1 H1 p _ s1 => by cases p; exact k σ1 G1 H1 s1), (fun _ _ _ _ p => by cases p), (fun _ _ _ _ p => by cases p), (fun _ _ _ _ _ _ p => by cases p), (fun _ _ _ _ _ _ _ p => by cases p), (fun _ _ _ p => by cases p)⟩
theorem for_at {α : Type} {J : It} {g : TG} {tb : TS} {xs : List α} {en : α → PyData} (wk : Wk J G (xs.map en)) (s1 : Sta Pv G0 H0 G H σ ρ) (k : Kn E P Pv G0 H0 G D) (I : Nat → Rho → Prop) (h0 : I 0 ρ)
    (hs : ∀ (n : Nat) x ρ', xs[n]? = some x → I n ρ' → ∃ ρ2, TS_ g (en x) ρ' ρ2 ∧ SO E tb ρ2 (Turn (I (n + 1)) P)) (hd : ∀ ρ', I xs.length ρ' → P (.nxt ρ')) : tFor (fun _ H R => R J H) g tb D σ H := by
  refine ⟨fun n m σ2 H2 => m = xs.length - n ∧ n ≤ xs.length ∧ ∃ G2 ρ2, Same G G2 ∧ Sta Pv G0 H0 G2 H2 σ2 ρ2 ∧ I n ρ2, ⟨xs.length, by simp, Nat.zero_le _, G, ρ, .refl _, s1, h0⟩, ?_⟩
  rintro n m σ2 H2 ⟨rfl, hle, G2, ρ2, e2, s2, hI⟩
  by_cases hlt : n < xs.length
  · refine .inr ⟨wk.go n H2 (e2.trans s2.fm.e) (by rw [List.length_map]; exact hlt), fun σ3 H3 => n + 1 ≤ xs.length ∧ ∃ G3 ρ3, Same G G3 ∧ Sta Pv G0 H0 G3 H3 σ3 ρ3 ∧ I (n + 1) ρ3, fun σ3 H3 z => ⟨xs.length - (n + 1), by omega, rfl, z⟩, fun x H3 y => ?_⟩
    have hx : xs[n]? = some xs[n] := List.getElem?_eq_getElem hlt
    obtain ⟨G3, x3, hv⟩ := wk.yl n (en xs[n]) H2 x H3 (e2.trans s2.fm.e) (by rw [List.getElem?_map, hx]; rfl) y G2 e2 s2.fm.e
    obtain ⟨ρ3, tg, so⟩ := hs n _ ρ2 hx hI
    refine tg Pv G0 H0 G3 H3 σ2 x _ (s2.grow x3) hv fun σ4 s4 => ?_
    have e3 : Same G G3 := e2.trans x3.g
    refine so Pv G0 H0 G3 H3 σ4 _ s4 ⟨fun ρ5 σ5 G5 H5 p e s5 => ⟨hlt, G5, ρ5, e3.trans e, s5, p⟩, fun ρ5 σ5 G5 H5 p e s5 => ?_, fun ρ5 σ5 G5 H5 p e s5 => ⟨hlt, G5, ρ5, e3.trans e, s5, p⟩, fun ρ5 σ5 d v G5 H5 p e s5 => ?_, fun ρ5 σ5 ds p xs G5 H5 q e s5 => ?_, fun C G5 H5 p => k.xc C G5 H5 p⟩
    · exact k.nx ρ5 σ5 G5 H5 p (e3.trans e) s5
    · exact k.rt ρ5 σ5 d v G5 H5 p (e3.trans e) s5
    · exact k.nw ρ5 σ5 ds p xs G5 H5 q (e3.trans e) s5
  · have e1 : n = xs.length := by omega
    subst e1
    refine .inl ⟨by have := wk.st H2 (e2.trans s2.fm.e); rw [List.length_map] at this; exact this, ?_⟩
    exact k.nx ρ2 σ2 G2 H2 (hd ρ2 hI) e2 s2
theorem sta_new (vw : Vw G H σ ρ) (hdat : ∀ (i : Nat) z, ρ[i]? = some z → z = .un ∨ ∃ d, z = .dat d) : Sta (fun _ => False) G H G H σ ρ :=
  ⟨.refl vw.e, vw, fun _ _ => none, (fun i ds z => by rcases hdat i _ z with w | ⟨_, w⟩ <;> cases w), (fun i R z => by rcases hdat i _ z with w | ⟨_, w⟩ <;> cases w), (fun _ _ _ z => by cases z), fun _ _ _ _ _ => rfl⟩
/-- cycles by their widths, the widest first -/
def leWc (a b : Int × Int) : Bool := decide (a.1 - a.2 ≤ b.1 - b.2)
def srtW (cs : List (Int × Int)) : List (Int × Int) := cs.mergeSort leWc
theorem srtW_perm (cs : List (Int × Int)) : (srtW cs).Perm cs := List.mergeSort_perm _ _
theorem srtW_srt (cs : List (Int × Int)) : (srtW cs).Pairwise fun a b => b.2 - b.1 ≤ a.2 - a.1 := by
  have h := List.pairwise_mergeSort (le := leWc) (fun a b c h1 h2 => by unfold leWc at *; rw [decide_eq_true_eq] at *; omega) (fun a b => by unfold leWc; rw [Bool.or_eq_true, decide_eq_true_eq, decide_eq_true_eq]; omega) cs
  exact h.imp fun {a b} z => by unfold leWc at z; rw [decide_eq_true_eq] at z; omega
/-- for x in sorted(xs, key=lambda ..): .. -/
theorem for_srt {K : PySem.W.Frag} {PT : Addr} {q : Str} {j : Nat} {g : TG} {tb : TS} {cs : List (Int × Int)} {Gs Hs h : Hp} {Q : VK} {post : PyData → Prop} (st : Sta (fun _ => False) Gs Hs G H σ ρ) (qj : ρ[j]? = some (Sl.dat (dC cs))) (hdat : ∀ (i : Nat) z, ρ[i]? = some z → z = .un ∨ ∃ d, z = .dat d)
    (hT : TabS h PT q) (hs : Same h Hs) (hdis : ∀ a, h a ≠ none → Gs a = none) (w : TWish PT q Gs Hs h Q E (.ok post)) {u : TS} (D : Ends) (hD : D = { nx := fun _ H' => Q .non H', rt := Q })
    (I : Nat → Rho → Prop) (h0 : I 0 ρ) (hb : ∀ (n : Nat) x ρ', (srtW cs)[n]? = some x → I n ρ' → ∃ ρ2, TS_ g (cy x) ρ' ρ2 ∧ SO E tb ρ2 (fun o => ∃ r, o = .nxt r ∧ I (n + 1) r)) (hd : ∀ ρ', I (srtW cs).length ρ' → SO E u ρ' (fun o => ∃ r d, o = .ret r d ∧ post d)) :
    tSeq (tFor (iList K (tSrtL K PT q (tCons (tVar j) tNil))) g tb) u D σ H := by
  subst hD
  obtain ⟨v, hv, dv⟩ := st.vw.dt j _ qj
  have gr := st.fm.gr
  have hsH := hs.trans gr.h
  obtain ⟨ps, hP, _⟩ := id hT
  have nG : ∀ a, h a ≠ none → G a = none := fun a z => gr.f a (hdis a z) (same_ne hs z)
  have nP : G PT = none := nG PT (by rw [hP]; exact Option.some_ne_none _)
  cases dv with
  | @lst a xs _ k1 k2 =>
    have hc := dvs_rdP k2
    refine ⟨_, hv, a, xs, rdP G, h, rfl, SqL.of (st.fm.e _ _ k1), fun x hx => ?_, hT, hsH, fun p H1 h1 np fr T1 sm dom hp1 hl => ?_⟩
    · obtain ⟨c, _, hd⟩ := dvs_mem k2 x hx
      obtain ⟨t, rfl, ht⟩ := dv_cy hd
      rw [rdP_of hd]
      exact ⟨t, rfl, st.fm.e _ _ ht⟩
    refine ⟨p, rfl, ⟨_, SqL.of hl⟩, ?_⟩
    have gp : G p = none := st.fm.e.free np
    have sG : Same G (upd G p (.lst (xs.mergeSort (leW (rdP G))))) := same_new gp
    have sGH : Same (upd G p (.lst (xs.mergeSort (leW (rdP G))))) H1 := fun b o z => by
      by_cases hb : b = p
      · subst hb; rw [upd_same] at z; cases z; exact hl
      · rw [upd_ne hb] at z
        exact fr b o (fun w => by rw [w, nP] at z; cases z) (st.fm.e b o z)
    have hdv : Dvs (upd G p (.lst (xs.mergeSort (leW (rdP G))))) (xs.mergeSort (leW (rdP G))) ((srtW cs).map cy) := by
      have e1 : srtW cs = (xs.mergeSort (leW (rdP G))).map (rdP G) := by
        unfold srtW
        rw [hc]
        exact (List.map_mergeSort (r := leW (rdP G)) (s := leWc) (f := rdP G) fun a _ b _ => rfl).symm
      rw [e1]
      refine (dvs_of_rdP fun y hy => ?_).up sG
      obtain ⟨c, _, hd⟩ := dvs_mem k2 y ((List.mergeSort_perm _ _).mem_iff.mp hy)
      exact ⟨c, hd⟩
    have vw1 : Vw (upd G p (.lst (xs.mergeSort (leW (rdP G))))) H1 σ ρ := ⟨sGH, st.vw.ln, fun i d z => let ⟨v, a, b⟩ := st.vw.dt i d z; ⟨v, a, b.up sG⟩⟩
    have s1 := sta_new vw1 hdat
    have nP1 : H1 PT ≠ none := by
      obtain ⟨ps1, e1, _⟩ := id T1
      rw [sm _ _ e1]; exact Option.some_ne_none _
    have fin : ∀ d v G' H', post d → Gr (upd G p (.lst (xs.mergeSort (leW (rdP G))))) H1 G' H' → Dv G' v d → Q v H' := fun d v G' H' pd x hv => by
      refine w d v G' H' h1 pd ⟨(gr.g.trans sG).trans x.g, fun a o na z => ?_, fun a z => ?_, x.e, fun a z1 z2 => ?_⟩ T1 (fun a z => ?_) (sm.trans x.h) (fun a z => ?_) hv
      · refine x.h a o (fr a o (fun ww => na ?_) (gr.h a o z))
        rw [ww, hP]; exact Option.some_ne_none _
      · refine same_ne x.h ?_
        by_cases ha : a = PT
        · rw [ha]; exact nP1
        · cases e : Hs a with
          | none => exact absurd e z
          | some o => rw [fr a o ha (gr.h a o e)]; exact Option.some_ne_none _
      · have hH : H a ≠ none := same_ne gr.h z2
        refine x.f a ?_ ?_
        · rw [upd_ne (fun ww => hH (by rw [ww]; exact np))]; exact gr.f a z1 z2
        · by_cases ha : a = PT
          · rw [ha]; exact nP1
          · cases e : H a with
            | none => exact absurd e hH
            | some o => rw [fr a o ha e]; exact Option.some_ne_none _
      · rcases dom a z with z | z
        · exact .inl z
        · exact .inr (gr.h.free z)
      · refine x.f a ?_ (same_ne sm z)
        rw [upd_ne (fun ww => z (by rw [ww]; exact hp1))]
        rcases dom a z with z | z
        · exact nG a z
        · exact st.fm.e.free z
    refine for_at (E := E) (P := After E u (fun o => ∃ r d, o = .ret r d ∧ post d)) (wk_list upd_same hdv) s1 ⟨fun ρ' σ' G' H' p e s' => ?_, fun ρ' σ' G' H' p e s' => ?_, fun ρ' σ' G' H' p e s' => ?_, fun ρ' σ' d v G' H' p e s' hv => ?_, fun ρ' σ' ds p xs G' H' z e s' _ _ _ _ => ?_, fun C G' H' p m => ?_⟩ I h0 (fun n x ρ' hx hI => ?_) hd
    · refine p _ _ _ _ _ _ _ s' ⟨fun _ _ _ _ z => ?_, fun _ _ _ _ z => ?_, fun _ _ _ _ z => ?_, fun ρ2 σ2 d v G2 H2 z e2 s2 hv => ?_, fun _ _ _ _ _ _ _ z => ?_, fun _ _ _ z => ?_⟩
      · obtain ⟨_, _, z, _⟩ := z; cases z
      · obtain ⟨_, _, z, _⟩ := z; cases z
      · obtain ⟨_, _, z, _⟩ := z; cases z
      · obtain ⟨_, _, z, pd⟩ := z; cases z; exact fin d v G2 H2 pd s2.fm.gr hv
      · obtain ⟨_, _, z, _⟩ := z; cases z
      · obtain ⟨_, _, z, _⟩ := z; cases z
    · obtain ⟨_, _, z, _⟩ := p; cases z
    · obtain ⟨_, _, z, _⟩ := p; cases z
    · obtain ⟨_, _, z, pd⟩ := p; cases z; exact fin d v G' H' pd s'.fm.gr hv
    · obtain ⟨_, _, z, _⟩ := z; cases z
    · obtain ⟨_, _, z, _⟩ := p; cases z
    · obtain ⟨ρ2, tg, so⟩ := hb n x ρ' hx hI
      exact ⟨ρ2, tg, so.imp fun o z => by obtain ⟨r, rfl, z⟩ := z; exact z⟩
end
section
variable {P : Program} {w : World} {K : PySem.W.Frag} {mg : Str → Option Value} {base : Heap}
/-- a def by its body, its code object named -/
theorem okXc {x qual : Str} {st : Stmt} {f c : Addr} {fd : FuncData} {N ps : List Str} {k : Nat} {sp : Sp} (F : Fun K x qual st f fd) (S : FnScope N ps (defScope st)) (hc : fd.code = .ref c) (len : ∀ vs H Q E, sp vs H Q E → vs.length = ps.length)
    (hbody : ∀ (A : Around) (outer : List Env) (s : Shared) (H : Hp) (vs : List V) (Q : VK) (E : XK), Room k (A.deeper (PyProof.Rows.envOfC qual (defScope st) s.heap.objs.size f (.ref c))) → sp vs H Q E →
      ∃ t, PSs (cxOf (L2.CX P w) P w K mg base N qual (defScope st) f (.ref c) A outer s H E) (defBody st) t ∧ t { nx := fun _ H' => Q .non H', rt := Q } (L2.start N vs) H) : FnOk P w K mg base (L2.CX P w) (k + 1) f fd ps sp := by
  obtain ⟨oc, od, kV, doc, pm, an, cdv, ct, osl, rfl, lk, hcd⟩ := F.ex
  have hc : cdv = .ref c := hc
  subst hc
  exact fn_of lk hcd S len fun A outer s H vs Q E hr hsp => hbody A outer s H vs Q E hr hsp
end
/-! a if c else b, as a test -/
def tIfT (tc ta tb : TT) : TT := fun σ H Q => tc σ H fun c H1 => if c = true then ta σ H1 Q else tb σ H1 Q
theorem pt_ifT {X : Cx} {c a b : Expr} {pos : Pos} {tc ta tb : TT} (hc : PT X c tc) (ha : PT X a ta) (hb : PT X b tb) : PT X (.IfExp c a b pos) (tIfT tc ta tb) := by
  refine ⟨fun pins s σ H Q I h => ?_⟩
  show wpAny _ _ (do if ← isTrue c X.env (eval c X.env) then isTrue a X.env (eval a X.env) else isTrue b X.env (eval b X.env)) _ _ _
  refine wpAny_bind (thn (hc.run pins s σ H _ I h) fun d s1 ⟨H1, I1, q1⟩ => ?_)
  cases d with
  | true => exact ha.run pins s1 σ H1 Q I1 q1
  | false => exact hb.run pins s1 σ H1 Q I1 q1
theorem et_ifT {ρ : Rho} {tc ta tb : TT} {c b : Bool} (h : ET tc ρ c) (h1 : c = true → ET ta ρ b) (h2 : c = false → ET tb ρ b) : ET (tIfT tc ta tb) ρ b := fun G H σ w Q q => h G H σ w _ fun H1 x1 => by
  cases c with
  | true => exact iteT (h1 rfl G H1 σ (w.more x1) Q fun H2 x2 => q H2 (x1.trans x2))
  | false => exact iteF (h2 rfl G H1 σ (w.more x1) Q fun H2 x2 => q H2 (x1.trans x2))
/-! the code object of a def that makes lambdas -/
def cdHd (vs : Array Value) (c P : Addr) : Bool := (match (vs[11]? : Option Value) with | some (.ref P') => P' == P | _ => false) && (match vs.getD 18 .none with | .str _ _ => true | _ => false) && (match vs.getD 7 .none with | .int _ _ => true | _ => false) && (match vs.getD 9 .none with | .bool _ => true | _ => false) && (match vs.getD 10 .none with | .int _ _ => true | _ => false) && c != P
theorem cdHd_of {K : PySem.W.Frag} {c P : Addr} {od : Option Addr} {vs : Array Value} {sl : Array (Option Value)} (h : K.lookup c = some ⟨.type "code", od, .fields vs, sl⟩) (e : cdHd vs c P = true) : PySem.W.codeHdIn K c P = true := by
  unfold PySem.W.codeHdIn
  rw [h]
  exact e
end Dl

namespace Rf
open PySem L2 Dl
/-! ### where a pair is put into a staircase -/
theorem Up.at {w M a : Int} {q : List Int} (h : Up w M a q) : ∀ {lo hi : Int}, a ≤ lo → lo < hi → hi ≤ M → hi - lo ≤ w → ∃ q1 x y q2, a :: q = q1 ++ x :: y :: q2 ∧ x ≤ lo ∧ hi ≤ y ∧ (∀ v ∈ (q1 ++ [x]).drop 1, v < hi) ∧ Up (hi - lo) M a ((q1 ++ x :: hi :: lo :: y :: q2).drop 1) := by
  induction h with
  | @last a h =>
    intro lo hi h1 h2 h3 h4
    exact ⟨[], a, M, [], rfl, h1, h3, (fun v hv => by cases hv), .step (by omega) h2 (Int.le_refl _) (.last (by omega))⟩
  | @step a hi0 lo0 q g1 g2 g3 hu ih =>
    intro lo hi h1 h2 h3 h4
    by_cases hh : hi ≤ hi0
    · exact ⟨[], a, hi0, lo0 :: q, rfl, h1, hh, (fun v hv => by cases hv), .step (by omega) h2 (Int.le_refl _) (.step (by omega) g2 (by omega) (hu.mono h4))⟩
    · obtain ⟨q1, x, y, q2, e, k1, k2, k3, k4⟩ := ih (lo := lo) (hi := hi) (by omega) h2 h3 h4
      refine ⟨a :: hi0 :: q1, x, y, q2, by rw [List.cons_append, List.cons_append, ← e], k1, k2, fun v hv => ?_, ?_⟩
      · have hv : v ∈ hi0 :: (q1 ++ [x]) := hv
        rcases List.mem_cons.mp hv with rfl | hv
        · omega
        · cases q1 with
          | nil =>
            rw [List.nil_append, List.mem_singleton] at hv
            have := (List.cons.inj e).1
            omega
          | cons b q1 =>
            rcases List.mem_cons.mp hv with rfl | hv
            · have := (List.cons.inj e).1
              omega
            · exact k3 v hv
      · have key : ∀ m : List Int, (q1 ++ x :: m) = lo0 :: (q1 ++ x :: m).drop 1 := fun m => by
          cases q1 with
          | nil => rw [List.nil_append]; have := (List.cons.inj e).1; rw [← this]; rfl
          | cons b q1 => have := (List.cons.inj e).1; rw [← this]; rfl
        show Up (hi - lo) M a (hi0 :: (q1 ++ x :: hi :: lo :: y :: q2))
        rw [key]
        exact .step g1 g2 (by omega) k4
structure InvUp (s : List Int) (a M : Int) (z rest : List Int) (done : List (Int × Int)) (row : List Int) : Prop where
  ex : ∃ q, row = s ++ a :: (q ++ z) ∧ ∀ w, (∀ p ∈ done, w ≤ p.2 - p.1) → Up w M a q
  has : Has done rest row
  ge : ∀ x ∈ row, a ≤ x
theorem up_start {s z rest : List Int} {a M : Int} (hr : rest = s ++ a :: M :: z) (ht : isT rest) (hn : Nf rest) (ham : a < M) (hg : ∀ x ∈ rest, a ≤ x) : InvUp s a M z rest [] rest := by
  obtain ⟨e1, e2⟩ := cyc_nf ht hn
  exact ⟨⟨[M], hr, fun w _ => .last ham⟩, ⟨ht, by rw [e1]; rfl, e2⟩, hg⟩
theorem up_step {s z rest row : List Int} {a M lo hi : Int} {done : List (Int × Int)} (h : InvUp s a M z rest done row) (h1 : a ≤ lo) (h2 : lo < hi) (h3 : hi ≤ M) (h4 : ∀ p ∈ done, hi - lo ≤ p.2 - p.1) :
    ∃ P : Nat, s.length ≤ P ∧ P + 1 < row.length ∧ hi ≤ gI row ((P : Int) + 1) ∧ (∀ j : Nat, s.length ≤ j → j < P → gI row ((j : Int) + 1) < hi) ∧ gI row (P : Int) < gI row ((P : Int) + 1) ∧ InvUp s a M z rest (done ++ [(lo, hi)]) (row.take (P + 1) ++ [hi, lo] ++ row.drop (P + 1)) := by
  obtain ⟨q, e, hu⟩ := h.ex
  obtain ⟨q1, x, y, q2, e2, k1, k2, k3, k4⟩ := (hu (hi - lo) h4).at h1 h2 h3 (Int.le_refl _)
  have er : row = (s ++ q1) ++ x :: y :: (q2 ++ z) := by
    rw [e]
    have : a :: (q ++ z) = (a :: q) ++ z := rfl
    rw [this, e2]; simp
  have gx : gI row ((s ++ q1).length : Int) = x := by rw [er]; exact gI_at _ _ _
  have gy : gI row (((s ++ q1).length : Int) + 1) = y := by rw [er]; exact gI_atk _ _ 1 y rfl (by omega)
  obtain ⟨t', r'⟩ := put_up (s ++ q1) (a := x) (d := y) (lo := lo) (hi := hi) (q2 ++ z) (er ▸ h.has.1) k1 h2 k2
  have enew : row.take ((s ++ q1).length + 1) ++ [hi, lo] ++ row.drop ((s ++ q1).length + 1) = (s ++ q1) ++ x :: hi :: lo :: y :: (q2 ++ z) := by
    rw [er, List.take_append, List.drop_append]
    rw [List.take_of_length_le (by omega), List.drop_of_length_le (by omega)]
    rw [show (s ++ q1).length + 1 - (s ++ q1).length = 1 from by omega]
    simp
  refine ⟨(s ++ q1).length, by simp, by rw [er]; simp; omega, by rw [gy]; exact k2, fun j hj1 hj2 => ?_, by rw [gx, gy]; omega, ?_⟩
  · -- between
    have hj3 : j - s.length < q1.length := by rw [List.length_append] at hj2; omega
    have hm : gI row ((j : Int) + 1) ∈ (q1 ++ [x]).drop 1 := by
      have hr2 : row = s ++ ((q1 ++ [x]) ++ y :: (q2 ++ z)) := by rw [er]; simp
      have hlt : j - s.length + 1 < (q1 ++ [x]).length := by rw [List.length_append, List.length_singleton]; omega
      have hget : ((q1 ++ [x]) ++ y :: (q2 ++ z))[j - s.length + 1]? = some (q1 ++ [x])[j - s.length + 1] := by
        rw [List.getElem?_append_left hlt, List.getElem?_eq_getElem hlt]
      rw [hr2, gI_atk s _ (j - s.length + 1) _ hget (by omega)]
      have : (q1 ++ [x])[j - s.length + 1] = ((q1 ++ [x]).drop 1)[j - s.length]'(by rw [List.length_drop]; omega) := by
        rw [List.getElem_drop]; congr 1; omega
      rw [this]
      exact List.getElem_mem _
    exact k3 _ hm
  · rw [enew]
    refine ⟨⟨(q1 ++ x :: hi :: lo :: y :: q2).drop 1, ?_, fun w hw => k4.mono (hw (lo, hi) (by simp))⟩, ⟨t', ?_, ?_⟩, fun v hv => ?_⟩
    · have key : ∀ m : List Int, (q1 ++ x :: m) = a :: (q1 ++ x :: m).drop 1 := fun m => by
        cases q1 with
        | nil => rw [List.nil_append]; have := (List.cons.inj e2).1; rw [← this]; rfl
        | cons b q1 => have := (List.cons.inj e2).1; rw [← this]; rfl
      have k := key (hi :: lo :: y :: q2)
      calc (s ++ q1) ++ x :: hi :: lo :: y :: (q2 ++ z) = s ++ ((q1 ++ x :: hi :: lo :: y :: q2) ++ z) := by simp
        _ = s ++ ((a :: (q1 ++ x :: hi :: lo :: y :: q2).drop 1) ++ z) := by rw [← k]
        _ = _ := rfl
    · have ec := (cyc_red t' r').1
      rw [← cyc_srt]
      refine srtC_congr (ec.trans ?_)
      refine ((List.Perm.cons _ ?_).trans (List.perm_append_comm (l₁ := [(lo, hi)]) (l₂ := done)))
      rw [← er, h.has.2.1]
      exact srtC_perm done
    · have ec := (cyc_red t' r').2
      rw [← er] at ec
      exact ec.symm.trans h.has.2.2
    · simp only [List.mem_append, List.mem_cons] at hv
      have hge : ∀ b, b ∈ row → a ≤ b := h.ge
      rcases hv with (hv | hv) | hv | hv | hv | hv | hv | hv
      · exact hge v (by rw [e]; simp [hv])
      · exact hge v (by rw [er]; simp [hv])
      · exact hge v (by rw [er]; simp [hv])
      · omega
      · omega
      · exact hge v (by rw [er]; simp [hv])
      · exact hge v (by rw [er]; simp [hv])
      · exact hge v (by rw [er]; simp [hv])
/-! ### both ways -/
abbrev ngI (x : Int) : Int := 0 - x
abbrev ngC (p : Int × Int) : Int × Int := (0 - p.2, 0 - p.1)
theorem gI_ng {l : List Int} {k : Int} (h1 : 0 ≤ k) (h2 : k < l.length) : gI (l.map ngI) k = 0 - gI l k := by
  unfold gI
  rw [if_pos h1, if_pos h1, List.getD_eq_getElem?_getD, List.getD_eq_getElem?_getD, List.getElem?_map, List.getElem?_eq_getElem (by omega : k.toNat < l.length)]
  rfl
/-- rows on the way, the widest cycles put in first -/
structure InvB (up : Bool) (first : Nat) (rest : List Int) (done : List (Int × Int)) (row : List Int) : Prop where
  inv : if up then ∃ s a M z, first = s.length ∧ a = lmin rest ∧ M = lmax rest ∧ InvUp s a M z rest done row
    else ∃ s a M z, first = s.length ∧ a = 0 - lmax rest ∧ M = 0 - lmin rest ∧ InvUp s a M z (rest.map ngI) (done.map ngC) (row.map ngI)
/-- row[:p + 1] + pair + row[p + 1:] -/
def putR (row : List Int) (p : Int) (c : Int × Int) : List Int := (cut row none (some (p + 1)) ++ (if gI row p < gI row (p + 1) then [c.2, c.1] else [c.1, c.2])) ++ cut row (some (p + 1)) none
/-- where the way ends -/
def stopAt (row : List Int) (first : Int) (c : Int × Int) (j : Int) : Bool := if gI row first = lmin row then decide (c.2 ≤ gI row (j + 1)) else decide (gI row (j + 1) ≤ c.1)
def IsPlace (row : List Int) (first : Int) (c : Int × Int) (p : Int) : Prop := 0 ≤ first ∧ first ≤ p ∧ p + 1 < row.length ∧ stopAt row first c p = true ∧ ∀ j, first ≤ j → j < p → stopAt row first c j = false
theorem putR_nat {row : List Int} {P : Nat} {c : Int × Int} (h : P + 1 < row.length) : putR row (P : Int) c = row.take (P + 1) ++ (if gI row (P : Int) < gI row ((P : Int) + 1) then [c.2, c.1] else [c.1, c.2]) ++ row.drop (P + 1) := by
  unfold putR
  rw [show ((P : Int) + 1) = ((P + 1 : Nat) : Int) from by omega, cut_to _ _, cut_from _ _]
theorem InvB.has {up : Bool} {first : Nat} {rest row : List Int} {done : List (Int × Int)} (h : InvB up first rest done row) : Has done rest row := by
  cases up with
  | true =>
    obtain ⟨s, a, M, z, _, _, _, k⟩ := h.inv
    exact k.has
  | false =>
    obtain ⟨s, a, M, z, _, _, _, k⟩ := h.inv
    exact (has_sim_iff sim_neg sim_neg (fun x => by omega) (fun p => by ext <;> simp <;> omega)).mp k.has
theorem stepB {up : Bool} {first : Nat} {rest row : List Int} {done : List (Int × Int)} {c : Int × Int} (h : InvB up first rest done row) (hlt : lmin rest < lmax rest) (hmn : up = false → ∃ x ∈ row, x < lmax rest) (h1 : lmin rest ≤ c.1) (h2 : c.1 < c.2) (h3 : c.2 ≤ lmax rest) (h4 : ∀ p ∈ done, c.2 - c.1 ≤ p.2 - p.1) :
    ∃ p : Int, IsPlace row first c p ∧ InvB up first rest (done ++ [c]) (putR row p c) := by
  cases up with
  | true =>
    obtain ⟨s, a, M, z, e1, e2, e3, k⟩ := h.inv
    obtain ⟨P, p1, p2, p3, p4, p5, p6⟩ := up_step k (lo := c.1) (hi := c.2) (by omega) h2 (by omega) h4
    have hf : gI row (first : Int) = lmin row := by
      obtain ⟨q, er, _⟩ := k.ex
      have ga : gI row (first : Int) = a := by rw [er, e1]; exact gI_at _ _ _
      have hne : row ≠ [] := by rw [er]; simp
      have l1 : a ≤ lmin row := k.ge _ (lmin_mem hne)
      have l2 : lmin row ≤ a := lmin_le (by rw [er]; simp)
      rw [ga]; omega
    refine ⟨P, ⟨by omega, by omega, by omega, ?_, fun j hj1 hj2 => ?_⟩, ⟨?_⟩⟩
    · unfold stopAt; rw [if_pos hf, decide_eq_true p3]
    · unfold stopAt
      rw [if_pos hf]
      have := p4 j.toNat (by omega) (by omega)
      rw [show ((j.toNat : Nat) : Int) = j from by omega] at this
      exact decide_eq_false (by omega)
    · show ∃ s a M z, _
      refine ⟨s, a, M, z, e1, e2, e3, ?_⟩
      rw [putR_nat p2, if_pos p5]
      exact p6
  | false =>
    obtain ⟨s, a, M, z, e1, e2, e3, k⟩ := h.inv
    obtain ⟨P, p1, p2, p3, p4, p5, p6⟩ := up_step k (lo := 0 - c.2) (hi := 0 - c.1) (by omega) (by omega) (by omega) (fun p hp => by
      obtain ⟨p0, hp0, rfl⟩ := List.mem_map.mp hp
      have := h4 p0 hp0
      show 0 - c.1 - (0 - c.2) ≤ 0 - p0.1 - (0 - p0.2)
      omega)
    rw [List.length_map] at p2
    have g1 : gI (row.map ngI) ((P : Int) + 1) = 0 - gI row ((P : Int) + 1) := gI_ng (by omega) (by omega)
    have g0 : gI (row.map ngI) (P : Int) = 0 - gI row (P : Int) := gI_ng (by omega) (by omega)
    have hf : ¬ gI row (first : Int) = lmin row := by
      obtain ⟨q, er, _⟩ := k.ex
      have ga : gI (row.map ngI) (first : Int) = a := by rw [er, e1]; exact gI_at _ _ _
      rw [gI_ng (by omega) (by omega)] at ga
      obtain ⟨x, hx, hxl⟩ := hmn rfl
      have := lmin_le hx
      omega
    refine ⟨P, ⟨by omega, by omega, by omega, ?_, fun j hj1 hj2 => ?_⟩, ⟨?_⟩⟩
    · unfold stopAt; rw [if_neg hf]; exact decide_eq_true (by omega)
    · unfold stopAt
      rw [if_neg hf]
      have := p4 j.toNat (by omega) (by omega)
      rw [show ((j.toNat : Nat) : Int) = j from by omega, gI_ng (by omega) (by omega)] at this
      exact decide_eq_false (by omega)
    · show ∃ s a M z, _
      refine ⟨s, a, M, z, e1, e2, e3, ?_⟩
      rw [putR_nat p2, if_neg (by omega)]
      have em : (row.take (P + 1) ++ [c.1, c.2] ++ row.drop (P + 1)).map ngI = (row.map ngI).take (P + 1) ++ [0 - c.1, 0 - c.2] ++ (row.map ngI).drop (P + 1) := by simp [List.map_take, List.map_drop]
      rw [em, List.map_append]
      exact p6
/-- the start -/
theorem startB {rest : List Int} (ht : isT rest) (hn : Nf rest) (h2 : 2 ≤ rest.length) : lmin rest < lmax rest ∧ ∃ up, InvB up ((ranges rest).idxOf (lmax (ranges rest))) rest [] rest := by
  have hg : ranges rest ≠ [] := fun z => by
    have := congrArg List.length z
    rw [ranges_len] at this
    simp at this
    omega
  have w := widest ht hn hg
  have hlt := (top_at hg).1
  rw [ranges_len] at hlt
  obtain ⟨s, a, d, q, e, hp⟩ := split2 (l := rest) (p := ((ranges rest).idxOf (lmax (ranges rest)) : Nat)) (by omega) (by omega)
  rw [hp] at w
  have g1 : gI rest (s.length : Int) = a := by rw [e]; exact gI_at s a _
  have g2 : gI rest ((s.length : Int) + 1) = d := by rw [e]; exact gI_atk s _ 1 d rfl (by omega)
  rw [g1, g2] at w
  have hperm := srtI_perm [a, d]
  rw [w] at hperm
  have hne : rest ≠ [] := by intro z; rw [z] at h2; simp at h2
  have hle : lmin rest ≤ lmax rest := lmin_le (lmax_mem hne)
  have had : a ≠ d := by
    have t : isT (a :: d :: q) := (isT_app (l := s) (e ▸ ht)).2
    match q, t with
    | [], t => exact t
    | x :: q, t => have := t.1; unfold ext at this; omega
  have cases2 : (a = lmin rest ∧ d = lmax rest) ∨ (a = lmax rest ∧ d = lmin rest) := by
    have ha : a ∈ [lmin rest, lmax rest] := hperm.mem_iff.mpr (by simp)
    have hd : d ∈ [lmin rest, lmax rest] := hperm.mem_iff.mpr (by simp)
    simp at ha hd
    omega
  refine ⟨by omega, ?_⟩
  rcases cases2 with ⟨e1, e2⟩ | ⟨e1, e2⟩
  · refine ⟨true, ⟨?_⟩⟩
    show ∃ s a M z, _
    exact ⟨s, a, d, q, by omega, e1, e2, up_start e ht hn (by omega) fun x hx => by rw [e1]; exact lmin_le hx⟩
  · refine ⟨false, ⟨?_⟩⟩
    show ∃ s a M z, _
    refine ⟨s.map ngI, 0 - a, 0 - d, q.map ngI, by rw [List.length_map]; omega, by omega, by omega, up_start ?_ (sim_neg.isT ht) (sim_neg.nf hn) (by omega) fun x hx => ?_⟩
    · rw [e]; simp
    · obtain ⟨y, hy, rfl⟩ := List.mem_map.mp hx
      have := le_lmax hy
      show 0 - a ≤ 0 - y
      omega
end Rf

namespace Dl
open PySem PySem.Spec L2 LamX Rf
section
variable {Pv : Addr → Prop} {G0 H0 G H A B : Hp} {σ : St} {ρ : Rho} {E : XK} {P : Out → Prop} {D : Ends} {Q : VK}
theorem Fm.pre {G' H' : Hp} (x : Gr A B G H) (m : Fm Pv G H G' H') : Fm Pv A B G' H' := ⟨x.g.trans m.g, fun a o p z => m.h a o p (x.h a o z), fun a z => m.k a (same_ne x.h z), m.e, fun a z1 z2 => m.f a (x.f a z1 z2) (same_ne x.h z2)⟩
theorem kn_of_wish {d : PyData} (w : Wish A B Q E (.ok d)) : Kn E (fun o => Is o (.ok d)) (fun _ => False) A B G { nx := fun _ H' => Q .non H', rt := Q } := by
  refine ⟨fun ρ σ G' H' p _ s => ?_, fun ρ σ G' H' p _ s => ?_, fun ρ σ G' H' p _ s => ?_, fun ρ σ d v G' H' p _ s hv => ?_, fun ρ σ ds p xs G' H' q _ s h1 h2 h3 h4 => ?_, fun C G' H' p m => ?_⟩
  · cases p; exact w _ G' H' s.fm.gr .non
  · exact p.elim
  · exact p.elim
  · cases p; exact w _ G' H' s.fm.gr hv
  · cases q; exact w _ _ H' (s.fm.gr.take h1 h2 h3) (.lst upd_same (h4.up (same_new h2)))
  · exact p.elim
/-- try: .. except R as e: caught = e; what it raises is known here -/
theorem try_at {K : PySem.W.Frag} {R C : Addr} {tb : WX → TS} {i c : Nat} {u : TS} (s : Sta Pv G0 H0 G H σ ρ) (k : Kn E P Pv G0 H0 G D) (h : ∀ Z : WX, (∀ H', Same H H' → Z (.ref C) none σ H') → tb Z { D with nx := u D } σ H) (hl : i < ρ.length) (hne : i ≠ c) (hm : PySem.W.exmOne K (.ref C) (.ref R) = some true)
    (hp : ∀ a, SO E u ((ρ.set c (.prv (ExR a C))).set i .un) P) : tSeq (fun D σ H => tb (wKeep K (.ref R) i (fun _ => tAsg (tVar i) (gName c)) D) D σ H) u D σ H := by
  refine h _ fun H' e => ?_
  refine ⟨C, rfl, rfl, hm, fun a ha => ⟨.ref a, ?_, fun ha2 => ?_⟩⟩
  · exact List.getElem?_set_self (by rw [s.vw.ln]; exact hl)
  · have s1 := s.more e
    have h0 : H0 a = none := by
      cases q : H0 a with
      | none => rfl
      | some o => exact absurd ha (s1.fm.k a (by rw [q]; exact Option.some_ne_none _))
    have s2 : Sta Pv G0 H0 G (upd H' a (ExO a C)) σ ρ := s1.more (same_new ha)
    obtain ⟨fm2, vw2, hs2, p2⟩ := s1
    have p3 := p2.grow (Gr.flat fm2.e (same_new (o := ExO a C) ha))
    have gN : G a = none := fm2.e.free ha
    have s3 : Sta Pv G0 H0 G (upd H' a (ExO a C)) (σ.set c (some (.ref a))) (ρ.set c (.prv (ExR a C))) := by
      refine Sta.put (h := one a (ExO a C)) s2.fm s2.vw p3 (fun d z => by cases z) (fun es z => by cases z) (fun R z => by cases z; exact ⟨rfl, rfl⟩) (fun b o z => ?_) (fun j b hj z => ?_)
      · obtain ⟨rfl, rfl⟩ := one_some z
        exact ⟨upd_same, gN, .inr h0⟩
      · have zb := one_ne z
        subst zb
        cases q : hs2 j b with
        | none => rfl
        | some o => exact absurd (p2.hi j b o q).1 (by rw [ha]; exact (Option.some_ne_none _).symm)
    have s4 := s3.gone (i := i) (w := none)
    have e1 : (((σ.set i (some (V.ref a))).set c (some (V.ref a))).set i none) = (σ.set c (some (V.ref a))).set i none := by
      rw [List.set_comm _ _ (Ne.symm hne), List.set_set, List.set_comm _ _ hne]
    show u D _ _
    rw [e1]
    exact hp a _ _ _ _ _ _ _ s4 k
/-- found = f(..) if c else g(..), f writes the table: raised -/
theorem asg_er {PT : Addr} {q : Str} {rel : List PyData → TOut → Prop} {ds : List PyData} {X : Addr} {Z : WX} {h : Hp} {tt : TT} {ta : TA} {t2 : TE} {j : Nat} {D : Ends} (s : Sta (fun _ => False) A B G H σ ρ) (ht : ET tt (fz ρ) true) (ha : EA ta ρ ds) (hr : rel ds (.er X))
    (hT : TabS h PT q) (hs : Same h B) (hdis : ∀ a, h a ≠ none → A a = none) (hz : ∀ H', Same H H' → Z (.ref X) none σ H') : tAsg (tIf tt (tCallS (PrT PT q rel) (WE Z) ta) t2) (gName j) D σ H := by
  refine ht H H σ s.fz _ fun H1 x1 => iteT ?_
  have s1 := s.more x1
  refine ha G H1 σ s1.vw _ fun vs G2 H2 x2 hv => ?_
  have s2 := s1.grow x2
  have gr := s2.fm.gr
  exact ⟨G2, h, ds, .er X, hT, hs.trans gr.h, fun a z => gr.f a (hdis a z) (same_ne hs z), x2.e, hv, hr, fun H' e => hz H' ((x1.trans x2.h).trans e)⟩
/-- .. gone well; then the rest -/
theorem asg_ok {PT : Addr} {q : Str} {rel : List PyData → TOut → Prop} {ds : List PyData} {post : PyData → Prop} {Z : WX} {h : Hp} {tt : TT} {ta : TA} {t2 : TE} {j : Nat} {u : TS} (s : Sta (fun _ => False) A B G H σ ρ) (hdat : ∀ (i : Nat) z, ρ[i]? = some z → z = .un ∨ ∃ d, z = .dat d) (ht : ET tt (fz ρ) true) (ha : EA ta ρ ds) (hr : rel ds (.ok post))
    (hT : TabS h PT q) (hs : Same h B) (hdis : ∀ a, h a ≠ none → A a = none) (w : TWish PT q A B h Q E (.ok post)) (hu : ∀ d, post d → SO E u (ρ.set j (.dat d)) (fun o => ∃ r, o = .ret r d)) :
    tAsg (tIf tt (tCallS (PrT PT q rel) (WE Z) ta) t2) (gName j) { ({ nx := fun _ H' => Q .non H', rt := Q } : Ends) with nx := u { nx := fun _ H' => Q .non H', rt := Q } } σ H := by
  refine ht H H σ s.fz _ fun H1 x1 => iteT ?_
  have s1 := s.more x1
  refine ha G H1 σ s1.vw _ fun vs G2 H2 x2 hv => ?_
  have s2 := s1.grow x2
  have gr := s2.fm.gr
  refine ⟨G2, h, ds, .ok post, hT, hs.trans gr.h, fun a z => gr.f a (hdis a z) (same_ne hs z), x2.e, hv, hr, fun d v G' H' h' pd fm T' dom sm dj hd => ?_⟩
  have vw : Vw G' H' (σ.set j (some v)) (ρ.set j (.dat d)) := Vw.set ⟨fm.e, s2.vw.ln, fun i d z => let ⟨v, a, b⟩ := s2.vw.dt i d z; ⟨v, a, b.up fm.g⟩⟩ hd
  have s3 := sta_new vw (fun i z hz => by
    rcases get_set_dat hz with ⟨_, e⟩ | ⟨_, hz⟩
    · exact .inr ⟨d, e⟩
    · exact hdat i z hz)
  show u _ (σ.set j (some v)) H'
  refine hu d pd _ _ _ _ _ _ _ s3 ⟨fun _ _ _ _ z => ?_, fun _ _ _ _ z => ?_, fun _ _ _ _ z => ?_, fun ρ2 σ2 d2 v2 G3 H3 z e2 s4 hv2 => ?_, fun _ _ _ _ _ _ _ z => ?_, fun _ _ _ z => ?_⟩
  · obtain ⟨_, z⟩ := z; cases z
  · obtain ⟨_, z⟩ := z; cases z
  · obtain ⟨_, z⟩ := z; cases z
  · obtain ⟨_, z⟩ := z
    cases z
    have g3 := s4.fm.gr
    refine w d v2 G3 H3 h' pd (Fm.grow (Fm.pre gr fm) g3) T' (fun a z => ?_) (sm.trans g3.h) (fun a z => g3.f a (dj a z) (same_ne sm z)) hv2
    rcases dom a z with z | z
    · exact .inl z
    · exact .inr (gr.h.free z)
  · obtain ⟨_, z⟩ := z; cases z
  · obtain ⟨_, z⟩ := z; cases z
end
section
variable {ρ : Rho} {te : TE} {d : PyData}
theorem edm_ex (h : EX te ρ (· = d)) : EDM te ρ ρ d := fun Pv G0 H0 G H σ s Q k => h Pv G0 H0 G H σ s Q fun v d' G' H' e g s1 hv => k v G' H' g s1 (e ▸ hv)
theorem ex_cbP {t : TA} {r : List V → Hp → VK → Prop} {PA : List PyData → Prop} {P : PyData → Prop} (h : EXA t ρ PA) (hr : ∀ ds, PA ds → ∃ d, P d ∧ RC r ds d) : EX (tCB r t) ρ P := fun Pv G0 H0 G H σ s Q q =>
  h Pv G0 H0 G H σ s _ fun vs ds G1 H1 p e s1 hv => by
    obtain ⟨d, pd, hd⟩ := hr ds p
    exact hd G1 H1 vs s1.fm.e hv Q fun z G2 H2 x2 hz => q z d G2 H2 pd (e.trans x2.g) (s1.grow x2) hz
end
end Dl

namespace Dl
open PySem PySem.Spec PyProof.Rows L2
/-! an exception out of a comprehension -/
theorem hid_none {B : Heap} {C L : Addr} (hb : B.get? L = none) : (PySem.W.hideAll B [C]).get? L = none := by
  cases q : (PySem.W.hideAll B [C]).get? L with
  | none => rfl
  | some o' =>
    have := PySem.W.of_hideAll _ q
    rw [hb] at this
    cases this
theorem ff_hide {h B : Heap} (C : Addr) : ∀ {l : List Env}, h.FunFrames B l → h.FunFrames (PySem.W.hideAll B [C]) l
  | [], _ => trivial
  | _ :: _, ⟨hk, ⟨L, o, hf, hb, ho, hd⟩, hr⟩ => ⟨hk, ⟨L, o, hf, hid_none hb, ho, hd⟩, ff_hide C hr⟩
section
variable {X Y : Cx} {pins pins' : List (Addr × Obj)} {σ σ' : L2.St} {H H' H3 : Hp} {s s3 s5 s6 : Shared} {E0 : XK}
/-- behind a call that let an exception out: the state without it, the flight -/
theorem call_ground (J : Inv Y pins' σ' H' s5) {u : Value} (c : L2.CX Y.prog Y.w Y.stack H' s5 E0 u s6) : ∃ (a : Addr) (B : Heap) (sI : Shared) (HI : Hp) (cls : Value) (d : Option Addr), u = .ref a ∧ Inv Y pins' σ' HI sI ∧ (∀ b o, sI.heap.get? b = some o → b ∉ frs Y.stack → B.get? b = some o) ∧
    sI.heap.UpToSlots s6.heap ∧ HandSPX.FlyingZ B Y.stack a (Zc cls d) s6.heap ∧ HI a = none ∧ s6.os = sI.os ∧ AllBare s6.gens ∧ E0 cls d HI := by
  obtain ⟨a, B, HI, cls, d, rfl, fl, hok, ub, na, os, ag, hE⟩ := c
  obtain ⟨R, r1, r2⟩ := restrict s6.heap fun b => (B.get? b).isSome || decide (b ∈ frs Y.stack)
  have inB : ∀ b o, B.get? b = some o → R.get? b = some o := fun b o e => by
    rw [r1 b (by simp [e])]
    exact fl.1 b o e
  have inF : ∀ b, b ∈ frs Y.stack → R.get? b = s6.heap.get? b := fun b hb => r1 b (by simp [hb])
  have back : ∀ b o, R.get? b = some o → s6.heap.get? b = some o ∧ ((B.get? b).isSome = true ∨ b ∈ frs Y.stack) := fun b o e => by
    cases q : ((B.get? b).isSome || decide (b ∈ frs Y.stack)) with
    | false => rw [r2 b q] at e; cases e
    | true =>
      rw [r1 b q] at e
      exact ⟨e, by simpa [Bool.or_eq_true] using q⟩
  refine ⟨a, B, { s5 with heap := R, gens := s6.gens, drawn := s6.drawn, toks := s6.toks }, HI, cls, d, rfl, ?_, fun b o e hb => ?_, Heap.UpToSlots.of_keeps fun b o e => (back b o e).1, fl, na, os, ag, hE⟩
  · refine J.call (ch := []) ⟨fun b o e n hb _ => inB b o (ub.keep b o e n hb), fun b o e n hb _ => ?_, fun b o e n _ => ub.free b o e n, fun b o e _ => ?_, ub.tups, ub.frzs, ub.tbls⟩ (hok.kept inB) ag (fun _ z => nomatch z)
    · obtain ⟨sl, q⟩ := ub.slot b o e hb
      exact ⟨sl, by rw [inF b hb]; exact q⟩
    · by_cases hb : b ∈ frs Y.stack
      · obtain ⟨sl, q⟩ := ub.slot b o e hb
        exact ⟨_, by rw [inF b hb]; exact q⟩
      · obtain ⟨o', q⟩ := ub.there b o e hb
        exact ⟨o', inB b o' q⟩
  · obtain ⟨e1, z⟩ := back b o e
    rcases z with z | z
    · obtain ⟨o', q⟩ := Option.isSome_iff_exists.mp z
      have w := fl.1 b o' q
      rw [e1] at w; cases w
      exact q
    · exact absurd z hb
theorem lc_raise {ce : Env} {fp : List Addr} {scope : Scope} {u : Value} (I3 : Inv X pins σ H3 s3) (hst : X.stack = X.env :: X.outer) (hf : X.env.frame = some X.env.locals) (hcf : ce.frame = X.env.frame) (cL : ce.locals = s3.heap.objs.size)
    (f3 : ∀ b ∈ fp, (b ∈ X.ex ∨ X.s_0.heap.objs.size ≤ b) ∧ b ≠ X.env.locals ∧ (∀ x c, X.env.cells.lookup x = some c → c ≠ b) ∧ ∀ p ∈ X.pn ++ pins, p.1 ≠ b) (J : Inv (X.blk s3 H3 scope ce fp) pins' σ' H' s5) (tk : Takes X (fun cls d _ H => E0 cls d H))
    (c : L2.CX X.prog X.w X.stack H' s5 E0 u s6) : notedBy (model X.prog X.w) X.A ce (CompFails (model X.prog X.w) X.A X.xe ce) u s6 := by
  obtain ⟨a, B, sI, HI, cls, d, rfl, JI, nb, up, fl, na, os, ag, hE⟩ := call_ground J c
  have nb : ∀ b o, sI.heap.get? b = some o → b ∉ frs X.stack → B.get? b = some o := nb
  have fl : HandSPX.FlyingZ B X.stack a (Zc cls d) s6.heap := fl
  have IX : Inv X pins σ HI sI := I3.call' (ch := fp) JI.os JI.base JI.hok JI.bare f3
  obtain ⟨mC, hnC, _⟩ := JI.loc
  have hnC : sI.heap.Ns ce.locals mC := hnC
  have nC : HI ce.locals = none := JI.free
  have fpC : FpOk X pins HI ce.locals := I3.fpOk (by rw [cL]; exact Nat.le_refl _) nC
  have hfr : X.A.frames = some (X.env :: X.outer) := by rw [IX.ok.frames, hst]
  show wpAny _ _ (noteFrame (.ref a) ce) _ _ s6
  rw [noteFrame_env _ hcf]
  refine HandSPX.looks_onZ Zc.steady hfr hf (by rw [hst] at fl; exact fl) fun h1 hH up1 => ?_
  obtain ⟨g1, g2, g3, g4⟩ := hH
  have hn1 : h1.Ns ce.locals mC := (hnC.upToSlots up).upToSlots up1
  refine ⟨mC, hn1, fun h2 m2 hn2 hs2 => ?_⟩
  have inh : ∀ b, (PySem.W.hideAll B [ce.locals]).get? b = none ∨ (b ≠ ce.locals ∧ (PySem.W.hideAll B [ce.locals]).get? b = B.get? b) := fun b => by
    by_cases hb : b = ce.locals
    · exact .inl (PySem.W.hideAll_none _ (by rw [hb]; exact .head _))
    · cases q : B.get? b with
      | none =>
        cases q2 : (PySem.W.hideAll B [ce.locals]).get? b with
        | none => exact .inl rfl
        | some o => have := PySem.W.of_hideAll _ q2; rw [q] at this; cases this
      | some o => exact .inr ⟨hb, PySem.W.hideAll_get _ q (by simpa using hb)⟩
  have nofld : ∀ b o vs, h1.get? b = some o → o.data = .fields vs → b ≠ ce.locals := fun b o vs e hd z => by
    obtain ⟨oC, es, ep, e2, hd2, _⟩ := hn1
    rw [z, e2] at e; cases e
    rw [hd2] at hd; cases hd
  obtain ⟨oe, vs, T, oT, ts, he, hz, hd, h1', hnT, hTe, hT, hdT, h3'⟩ := g4
  have he2 : h2.get? a = some oe := (hs2.2 a (nofld a oe vs he hd)).trans he
  have hT2 : h2.get? T = some oT := (hs2.2 T (nofld T oT ts hT hdT)).trans hT
  have hN0 : ∀ b, B.get? b = none → (PySem.W.hideAll B [ce.locals]).get? b = none := fun b q => by
    rcases inh b with z | ⟨_, z⟩
    · exact z
    · rw [z]; exact q
  have hh : HandSPX.HeldZ (PySem.W.hideAll B [ce.locals]) (X.env :: X.outer) a (Zc cls d) X.env.locals h2 := by
    refine ⟨fun b o e => ?_, hN0 a g2, Heap.FunFrames.sameBut hs2 hn2 (ff_hide _ g3), oe, vs, T, oT, ts, he2, hz, hd, h1', hN0 T hnT, hTe, hT2, hdT, h3'⟩
    rcases inh b with z | ⟨hb, z⟩
    · rw [z] at e; cases e
    · rw [z] at e
      exact (hs2.2 b hb).trans (g1 b o e)
  unfold PySem.passOn
  refine wpAny_bind (wpAny_field he2 hd h1' ?_)
  rw [if_neg (show ¬ ((Value.ref T == Value.none) = true) from by simp), hcf, hf]
  refine wpAny_bind (HandSPX.setFlight_onZ (s := { s6 with heap := h2 }) hh fun h3 hh3 up3 => wpAny_throw ?_)
  refine tk _ _ ⟨a, PySem.W.hideAll B [ce.locals], { sI with heap := PySem.W.hideAll sI.heap [ce.locals], toks := sI.toks }, pins, σ, HI, cls, d, rfl, ?_, fun b o e hb => ?_, fun b o e hnf => ?_, .inr (.inr (by rw [hst]; exact hh3)), na, os, ag, hE⟩
  · exact IX.turned (it := ce.locals) (fun b o hb e => PySem.W.hideAll_get _ e (by simpa using hb)) fpC.1 fpC.2.1 fpC.2.2.2.1 fpC.2.2.2.2.1 fpC.2.2.2.2.2
  · have e1 := PySem.W.of_hideAll _ e
    have hbC : b ≠ ce.locals := fun z => by rw [z, PySem.W.hideAll_none _ (.head _)] at e; cases e
    exact PySem.W.hideAll_get _ (nb b o e1 hb) (by simpa using hbC)
  · have e1 := PySem.W.of_hideAll _ e
    have hbC : b ≠ ce.locals := fun z => by rw [z, PySem.W.hideAll_none _ (.head _)] at e; cases e
    obtain ⟨sl1, q1⟩ := up b o e1 hnf
    obtain ⟨sl2, q2⟩ := up1 b _ q1 hnf
    obtain ⟨sl3, q3⟩ := up3 b _ ((hs2.2 b hbC).trans q2) hnf
    exact ⟨sl3, q3⟩
end
section
variable {X : Cx}
theorem thF {α : Type} {t : Sem α} {Q Q' : α → Shared → Prop} {M : Model} {A : Around} {E : Value → Shared → Prop} {s : Shared} (h : wpAny M A t Q (fun _ _ => False) s) (hQ : ∀ a s, Q a s → Q' a s) : wpAny M A t Q' E s := wpAny_mono h hQ fun _ _ z => z.elim
/-- a list comprehension whose element may raise -/
theorem lc_coreX {pins : List (Addr × Obj)} {s : Shared} {σ : L2.St} {H : Hp} {Q : VK} {E0 : XK} {elt tg iter : Expr} {scope : Scope} {own : List (Str × Nat)} {pos pos' : Pos} {wi : TI} {g : TG} {te : TE} {use : Option (Value → Sem Unit)} {Qf : Value → Shared → Prop}
    (hc : X.calm = true) (hN : X.N.Nodup) (I : Inv X pins σ H s) (hst : X.stack = X.env :: X.outer) (hfm : X.env.frame = some X.env.locals) (tk : Takes X (fun cls d _ H => E0 cls d H)) (hi : PI X tg iter wi) (ok : BlkOk X.N X.env.scope scope own)
    (hg : ∀ (s : Shared) (H : Hp) (C : Addr) (cl : List (Str × Addr)) (fp : List Addr), PG (X.blk s H scope (compEnvC scope cl C X.env) fp) tg g)
    (he : ∀ (s : Shared) (H : Hp) (C : Addr) (cl : List (Str × Addr)) (fp : List Addr) (xe : Value → Shared → Prop), (∀ σ, PassesAt (L2.CX X.prog X.w) ((X.blk s H scope (compEnvC scope cl C X.env) fp).wish xe) σ E0) → PE ((X.blk s H scope (compEnvC scope cl C X.env) fp).wish xe) elt te)
    (hs : ∀ x, foldedSetIterable iter X.env x = pure x) (h : tLc wi g tYes te (own.map (·.2)) σ H Q)
    (hRR : ∀ D ce s' m H', Inv X pins σ H' s' → Q (.ref D) H' → s'.heap.Ns ce.locals m → FpOk X pins H' ce.locals → compEnds (model X.prog X.w) X.A X.xe use Qf (.ref D) ce (.ok .next) s') :
    wpAny (model X.prog X.w) X.A (comprehension (.ListComp elt [⟨tg, iter, [], 0⟩] scope pos) scope X.env pos' (newList []) false (eval iter X.env) use) Qf X.xe s := by
  have hcl : ∀ y ∈ scope.names, y.2 = .free → ∃ c, X.env.cells.lookup y.1 = some c := fun y hy e => by
    rcases ok.free y hy e with k | k
    · exact I.ok.has _ (.inl k)
    · exact I.ok.has _ (.inr k)
  refine comprehension_at (use := use) rfl hs (closure_ok hcl) ok.kind (fun y hy e => by rw [ok.uniq y hy, e]) (thn (hi.run pins s σ H _ I h) fun xv s1 hx => thn hx fun itv s2 h2 => ?_)
  obtain ⟨it, fp, tn, J, H2, e, I2, T, st2, f2, q⟩ := h2
  subst e
  refine wpAny_newObj_type (newEnv_comp ?_) (by show 0 ≤ sizeLine; decide)
  generalize hD : s2.heap.objs.size = D
  have freeD : H2 D = none := I2.hok.fresh (Nat.le_of_eq hD)
  obtain ⟨W, ⟨m0, w0⟩, turn⟩ := q D freeD
  generalize hs3 : ({ s2 with heap := s2.heap.push { cls := .type "list", data := .seq ([] : List Value).toArray } } : Shared) = s3
  have I3 : Inv X pins σ (upd H2 D (.lst [])) s3 := by
    rw [← hs3]
    exact I2.laid (t' := s2.toks) (fun b o e => Heap.get?_push_of_some _ e) (Nat.le_of_eq hD) ⟨Nat.zero_le _, [], 0, .nil, by rw [← hD]; exact Heap.get?_push_size _ rfl⟩
  have hp3 : s3.heap = s2.heap.push { cls := .type "list", data := .seq ([] : List Value).toArray } := by rw [← hs3]
  have low : ∀ b ∈ fp, b < s2.heap.objs.size := fun b hb => let ⟨o, e, _⟩ := T.obj _ _ st2 b hb; Heap.lt_size e
  have fp3 : ∀ b ∈ fp, FpOk X pins (upd H2 D (.lst [])) b ∧ b < s3.heap.objs.size := fun b hb => by
    have lb := low b hb
    refine ⟨⟨?_, (f2 b hb).2⟩, by rw [hp3, Heap.size_push]; exact Nat.lt_succ_of_lt lb⟩
    rw [upd_ne (by rw [← hD]; exact Nat.ne_of_lt lb)]
    exact (f2 b hb).1
  have ch3 : ∀ b ∈ fp, (b ∈ X.ex ∨ X.s_0.heap.objs.size ≤ b) ∧ b ≠ X.env.locals ∧ (∀ x c, X.env.cells.lookup x = some c → c ≠ b) ∧ ∀ p ∈ X.pn ++ pins, p.1 ≠ b := fun b hb => ⟨(fp3 b hb).1.2.2.2.1, (fp3 b hb).1.2.1, (fp3 b hb).1.2.2.2.2.1, (fp3 b hb).1.2.2.2.2.2⟩
  have t3 : tn 0 s3.heap := T.keep _ _ _ st2 fun b _ o e => by rw [hp3]; exact Heap.get?_push_of_some _ e
  have I4 := block_start I3 ok hN fp3
  have pg := hg s3 (upd H2 D (.lst [])) s3.heap.objs.size (cellsFrom (s3.heap.objs.size + 1) scope.names (cloFrom X.env.cells scope.names [])) fp
  have pe := he s3 (upd H2 D (.lst [])) s3.heap.objs.size (cellsFrom (s3.heap.objs.size + 1) scope.names (cloFrom X.env.cells scope.names [])) fp
  show codeAny _ _ (.compStart (.ListComp elt [⟨tg, iter, [], 0⟩] scope pos) 0 (.ref it) (.ref D) (compEnvC scope (cellsFrom (s3.heap.objs.size + 1) scope.names (cloFrom X.env.cells scope.names [])) s3.heap.objs.size X.env)) (compEnds (model X.prog X.w) X.A X.xe use Qf (.ref D) (compEnvC scope (cellsFrom (s3.heap.objs.size + 1) scope.names (cloFrom X.env.cells scope.names [])) s3.heap.objs.size X.env)) { s3 with heap := pushCells (s3.heap.push { cls := .type "dict", data := .dict #[] }) scope.names }
  have nf : ∀ b ∈ fp, (upd H2 D (.lst [])) b = none := fun b hb => (fp3 b hb).1.1
  have hcf : (compEnvC scope (cellsFrom (s3.heap.objs.size + 1) scope.names (cloFrom X.env.cells scope.names [])) s3.heap.objs.size X.env).frame = X.env.frame := rfl
  have cL : (compEnvC scope (cellsFrom (s3.heap.objs.size + 1) scope.names (cloFrom X.env.cells scope.names [])) s3.heap.objs.size X.env).locals = s3.heap.objs.size := rfl
  generalize compEnvC scope (cellsFrom (s3.heap.objs.size + 1) scope.names (cloFrom X.env.cells scope.names [])) s3.heap.objs.size X.env = ce at I4 pg pe hcf cL ⊢
  generalize upd H2 D (.lst []) = H3 at I3 I4 pg pe w0 nf fp3
  generalize hs4 : ({ s3 with heap := pushCells (s3.heap.push { cls := .type "dict", data := .dict #[] }) scope.names } : Shared) = s4 at I4 ⊢
  have t4 : tn 0 s4.heap := T.keep _ _ _ t3 fun b _ o e => by rw [← hs4]; exact pushCells_keeps _ _ _ _ (Heap.get?_push_of_some _ e)
  have eR : ∀ x s', CompFails (model X.prog X.w) X.A X.xe ce x s' → compEnds (model X.prog X.w) X.A X.xe use Qf (.ref D) ce (.error x) s' := fun x s' k => by cases use <;> exact k
  have pe := pe (notedBy (model X.prog X.w) X.A ce (CompFails (model X.prog X.w) X.A X.xe ce)) (fun σ7 pins7 H7 s7 u s8 J7 c7 => lc_raise I3 hst hfm hcf cL ch3 J7.unwish tk c7)
  have fpk : ∀ {σ' : L2.St} {H' : Hp} {s' : Shared}, Inv (X.blk s3 H3 scope ce fp) [] σ' H' s' → (∀ b ∈ fp, H' b = none) → ∀ b ∈ fp, FpOk (X.blk s3 H3 scope ce fp) [] H' b := fun {σ' H' s'} J' hn b hb =>
    ⟨hn b hb, (J'.ok.exf b hb).1, J'.ok.exfs b hb, .inl hb, fun x c e => (J'.ok.exf b hb).2 x c e, fun p hp => absurd (show p ∈ ([] : List (Addr × Obj)) ++ [] from hp) (by simp)⟩
  have loop : codeAny (model X.prog X.w) X.A (.compLoop (.ListComp elt [⟨tg, iter, [], 0⟩] scope pos) 0 (.ref it) (.ref D) ce) (compEnds (model X.prog X.w) X.A X.xe use Qf (.ref D) ce) s4 := by
    refine compLoop_any (fun n s' => ∃ i H', Inv (X.blk s3 H3 scope ce fp) [] (wipe σ (own.map (·.2))) H' s' ∧ tn i s'.heap ∧ (∀ b ∈ fp, H' b = none) ∧ W i n H') ?_ m0 ⟨0, H3, I4, t4, nf, w0⟩
    rintro n s5 ⟨i, H5, I5, t5, n5, w5⟩
    rcases turn i n H5 w5 with ⟨stop, qq⟩ | ⟨go, Nx, hNx, step⟩
    · refine thF (T.done (X.blk s3 H3 scope ce fp) rfl rfl rfl hc i [] s5 _ H5 (fun _ _ => False) I5 (fpk I5 n5) t5 stop) fun r s6 ⟨hr, I6⟩ => ?_
      subst hr
      have I7 : Inv X pins σ H5 s6 := I3.call' (ch := fp) I6.os I6.base I6.hok I6.bare ch3
      have nC : H5 ce.locals = none := I6.free
      obtain ⟨m, hn, _⟩ := I6.loc
      exact hRR D ce s6 m H5 I7 qq hn (I3.fpOk (by rw [cL]; exact Nat.le_refl _) nC)
    · refine thF (T.item (X.blk s3 H3 scope ce fp) rfl rfl rfl hc i [] s5 _ H5 (fun _ _ => False) I5 (fpk I5 n5) t5 go) fun r s6 ⟨u, hr, h6⟩ => ?_
      subst hr
      refine thF h6 fun _ s7 ⟨x, H7, I7, r7, y7, t7, n7⟩ => ?_
      have I7' := I7.pinned (fpk I7 n7) (T.obj _ _ t7)
      refine thF (pg.run _ s7 _ H7 x u _ I7' r7 (step x H7 y7)) fun _ s8 ⟨σ8, H8, I8, hw8, q8⟩ => ?_
      refine wpAny_tests_nil ?_
      have q8 : te σ8 H8 fun y H4 => ∃ acc, H4 D = some (.lst acc) ∧ acc.length < sizeLine ∧ Nx (upd H4 D (.lst (acc ++ [y]))) := q8
      rw [if_pos rfl]
      refine wpAny_mono (pe.run _ s8 σ8 H8 _ (I8.wish _) q8) (fun z s10 ⟨yv, H10, I10, r10, acc, hD10, hz10, nx⟩ => ?_) (fun e s9 hx => wpAny_mono hx (fun _ s'' k => eR _ _ k) fun e'' s'' k => eR _ _ k)
      refine app_ok (X := X.blk s3 H3 scope ce fp) I10.unwish hD10 hz10 r10 fun s11 I11 => ?_
      obtain ⟨m', hm, w'⟩ := hNx _ nx
      have pin' : ∀ b ∈ fp, ∀ o, s7.heap.get? b = some o → s11.heap.get? b = some o ∧ (upd H10 D (.lst (acc ++ [yv]))) b = none := fun b hb o e =>
        let z := I11.pin (b, o) (List.mem_append_right _ (List.mem_append_right _ (mem_pinsAt hb e)))
        ⟨z.1, z.2.1⟩
      have hl : (wipe σ (own.map (·.2))).length = σ8.length := by rw [← hw8, wipe_length]
      refine ⟨m', hm, i + 1, _, (I11.unpinned (pins := [])).weak hl (fun j v e => ?_), T.keep _ _ _ t7 fun b hb o e => (pin' b hb o e).1, fun b hb => ?_, w'⟩
      · rw [← hw8] at e
        exact (wipe_some e).1
      · obtain ⟨o, e, _⟩ := T.obj _ _ t7 b hb
        exact (pin' b hb o e).2
  exact codeAny_compStart_list loop (T.self X.A 0 _ _ _ t4 loop)
end
end Dl

namespace Dl
open PySem PySem.Spec L2 Rf
/-! a comprehension whose element may raise, over data -/
theorem lcx_at {ρ : Rho} {G H : Hp} {σ : St} {α : Type} {wi : TI} {g : TG} {te : TE} {vs ks : List Nat} {ds : List α} {en : α → PyData} {e : α → PyData} {ok : α → Prop} (w : Vw G H σ ρ) (hi : ∀ R : It → Hp → Prop, (∀ J G1 H1, Gr G H G1 H1 → WkH J G1 H1 (ds.map en) → R J H1) → wi σ H R) (hk : ∀ k ∈ ks, k ∈ vs) (hl : ds.length < sizeLine)
    (ht : ∀ d ∈ ds, ∃ ρ', TV g (en d) (wipeR ρ vs) ρ' ks ∧ ((ok d ∧ ED te ρ' (e d)) ∨ ∀ G4 H4 σ4, Vw G4 H4 σ4 ρ' → Same H H4 → ∀ Q, te σ4 H4 Q)) : ∀ Q : VK, (∀ p xs G' H', (∀ d ∈ ds, ok d) → Gr G H G' H' → H p = none → G' p = none → H' p = some (.lst xs) → Dvs G' xs (ds.map e) → Q (.ref p) H') → tLc wi g tYes te vs σ H Q := fun Q q => by
  refine hi _ fun J G1 H1 x1 wk => fun D hD => ?_
  have w1 := w.grow x1
  refine ⟨fun i m H2 => m = ds.length - i ∧ i ≤ ds.length ∧ (∀ d ∈ ds.take i, ok d) ∧ ∃ G2 acc, Gr G1 (upd H1 D (.lst [])) G2 (upd H2 D (.lst [])) ∧ G2 D = none ∧ H2 D = some (.lst acc) ∧ Dvs G2 acc ((ds.take i).map e),
    ⟨ds.length, by simp, Nat.zero_le _, (fun d hd => by rw [List.take_zero] at hd; cases hd), G1, [], ?_, x1.e.free hD, upd_same, .nil⟩, ?_⟩
  · rw [upd_upd]
    exact .refl (x1.e.trans (same_new hD))
  rintro i m H2 ⟨rfl, hle, hok, G2, acc, x2, gD, hA, dA⟩
  have s2 : Same G2 H2 := fun b o z => by
    have := x2.e b o z
    rw [upd_ne (ne_of_none z gD)] at this
    exact this
  have s12 : Same G1 H2 := x2.g.trans s2
  have sH : Same H1 H2 := fun b o z => by
    have zb : b ≠ D := ne_of_none z hD
    have z2 := x2.h b o (by rw [upd_ne zb]; exact z)
    rw [upd_ne zb] at z2
    exact z2
  by_cases hlt : i < ds.length
  · refine .inr ⟨wk.go i H2 s12 sH (by rw [List.length_map]; exact hlt), fun H3 => i + 1 ≤ ds.length ∧ (∀ d ∈ ds.take (i + 1), ok d) ∧ ∃ G2 acc, Gr G1 (upd H1 D (.lst [])) G2 (upd H3 D (.lst [])) ∧ G2 D = none ∧ H3 D = some (.lst acc) ∧ Dvs G2 acc ((ds.take (i + 1)).map e),
      fun H3 z => ⟨ds.length - (i + 1), by omega, rfl, z⟩, fun x H3 y => ?_⟩
    have hd : ds[i]? = some ds[i] := List.getElem?_eq_getElem hlt
    obtain ⟨G3, x3, hx⟩ := wk.yl i (en ds[i]) H2 x H3 s12 sH (by rw [List.getElem?_map, hd]; rfl) y G2 x2.g s2
    have take1 : ds.take (i + 1) = ds.take i ++ [ds[i]] := by rw [List.take_add_one, hd]; rfl
    have gD3 : G3 D = none := x3.f D gD (by rw [hA]; exact Option.some_ne_none _)
    obtain ⟨ρ', tv, ed⟩ := ht ds[i] (List.getElem_mem hlt)
    have base : ∀ {G4 H4 : Hp}, Gr G3 H3 G4 H4 → H4 D = some (.lst acc) ∧ G4 D = none ∧ Gr G1 (upd H1 D (.lst [])) G4 (upd H4 D (.lst [])) := fun {G4 H4} x4 => by
      have hA3 := x4.h _ _ (x3.h _ _ hA)
      have gD4 : G4 D = none := x4.f D gD3 (by rw [x3.h _ _ hA]; exact Option.some_ne_none _)
      refine ⟨hA3, gD4, x2.trans ⟨x3.g.trans x4.g, same_both (x3.h.trans x4.h), same_new2 x4.e gD4, fun a p r => ?_⟩⟩
      by_cases ha : a = D
      · rw [ha]; exact gD4
      · rw [upd_ne ha] at r
        exact x4.f a (x3.f a p r) (same_ne x3.h r)
    refine tv G3 H3 (wipe σ vs) x _ ((((w.grow x1).wipe vs)).grow ⟨x2.g.trans x3.g, ?_, x3.e, fun a p r => ?_⟩) hx fun us hus σ' e' w' => ⟨?_, ?_⟩
    · intro b o z
      have zb : b ≠ D := ne_of_none z hD
      have z2 := x2.h b o (by rw [upd_ne zb]; exact z)
      rw [upd_ne zb] at z2
      exact x3.h _ _ z2
    · have zb : a ≠ D := ne_tr hD r
      have z2 := x2.f a p (by rw [upd_ne zb]; exact r)
      refine x3.f a z2 ?_
      have := same_ne x2.h (a := a) (by rw [upd_ne zb]; exact r)
      rw [upd_ne zb] at this
      exact this
    · subst e'
      exact wipe_sets σ ks us vs hk
    · refine et_yes G3 H3 σ' w' _ fun H4 x4 => iteT ?_
      have x34 : Gr G3 H3 G3 H4 := .flat x3.e x4
      rcases ed with ⟨hk1, ed⟩ | ed
      · refine ed G3 H4 σ' (w'.more x4) _ fun z G5 H5 x5 hz => ?_
        obtain ⟨b1, b2, b3⟩ := base (x34.trans x5)
        have hlen := dA.len
        refine ⟨acc, b1, ?_, hlt, fun d hd => ?_, G5, acc ++ [z], ?_, b2, upd_same, ?_⟩
        · rw [hlen, List.length_map]
          exact Nat.lt_of_le_of_lt (by rw [List.length_take]; omega) hl
        · rw [take1] at hd
          rcases List.mem_append.mp hd with hd | hd
          · exact hok d hd
          · rw [List.mem_singleton] at hd; rw [hd]; exact hk1
        · rw [upd_upd]; exact b3
        · rw [take1, List.map_append]
          exact Dvs.app (dA.up (x3.g.trans x5.g)) (.cons hz .nil)
      · exact ed G3 H4 σ' (w'.more x4) (((x1.h.trans sH).trans x3.h).trans x4) _
  · have e1 : i = ds.length := by omega
    subst e1
    rw [List.take_length] at dA hok
    refine .inl ⟨by have := wk.st H2 s12 sH; rw [List.length_map] at this; exact this, ?_⟩
    refine q D acc G2 H2 hok (x1.trans ⟨x2.g, ?_, s2, fun a p r => ?_⟩) (x1.h.free hD) gD hA dA
    · intro b o z
      have zb : b ≠ D := ne_of_none z hD
      have z2 := x2.h b o (by rw [upd_ne zb]; exact z)
      rw [upd_ne zb] at z2
      exact z2
    · have zb : a ≠ D := ne_tr hD r
      exact x2.f a p (by rw [upd_ne zb]; exact r)
theorem wk_h {J : It} {G H : Hp} {ds : List PyData} (w : Wk J G ds) : WkH J G H ds := ⟨fun i H s _ hi => w.go i H s hi, fun i d H x H' s _ q y G1 s1 s2 => w.yl i d H x H' s q y G1 s1 s2, fun H s _ => w.st H s⟩
section
variable {E : XK} {ρ : Rho} {P : Out → Prop} {K : PySem.W.Frag}
/-- y = [f(x) for x in xs], f may raise C -/
theorem so_lcX {tl : TE} {α : Type} {xs : List α} {en e : α → PyData} {ok : α → Prop} {rel : List PyData → Rs → Prop} {C : Addr} {i j : Nat} (hi : ED tl ρ (.list (xs.map en))) (hl : xs.length < 16777216) (hj : j < ρ.length)
    (h : ∀ x ∈ xs, (ok x ∧ rel [en x] (.ok (e x))) ∨ (rel [en x] (.er C) ∧ P (.exc C))) (hp : (∀ x ∈ xs, ok x) → P (.nxt (ρ.set i (.dat (.list (xs.map e)))))) :
    SO E (tAsg (tLc (iList K tl) (gName j) tYes (tCallS (PrS rel) (WE fun cls d _ H => E cls d H) (tCons (tVar j) tNil)) [j]) (gName i)) ρ P := fun Pv G0 H0 G H σ D s k => by
  have hwl : (wipeR ρ [j]).length = ρ.length := by show (ρ.set j .un).length = _; rw [List.length_set]
  refine lcx_at (ks := [j]) (ok := ok) (e := e) s.vw (fun R r => ei_list hi G H σ s.vw R fun J G1 H1 x1 wk => r J G1 H1 x1 (wk_h wk)) (fun k hk => hk) (size_lt hl) (fun x hx => ⟨_, tv_name, ?_⟩) _ (fun p ys G' H' hall gr hpn hg hh hd => ?_)
  · have hv : ((wipeR ρ [j]).set j (.dat (en x)))[j]? = some (Sl.dat (en x)) := List.getElem?_set_self (by rw [hwl]; exact hj)
    rcases h x hx with ⟨h1, h2⟩ | ⟨h1, h2⟩
    · exact .inl ⟨h1, ed_callS (ea_cons (ed_var hv) ea_nil) h2⟩
    · refine .inr fun G4 H4 σ4 w4 s4 Q' => ?_
      obtain ⟨v, a, b⟩ := w4.dt j _ hv
      exact ⟨v, a, G4, [en x], .er C, w4.e, .cons b .nil, h1, fun H5 e5 => k.xc C G H5 h2 (s.more (s4.trans e5)).fm⟩
  · exact k.nx _ _ _ H' (hp hall) (gr.g.trans (same_new hg)) ((s.grow (gr.take hpn hg hh)).set (.lst upd_same (hd.up (same_new hg))))
end
section
variable {X : Cx}
/-- the statement, by its derivation -/
theorem ps_setLcX {E0 : XK} {i : Nat} {y : Str} {py : Pos} {elt tg iter : Expr} {scope : Scope} {own : List (Str × Nat)} {pos spos : Pos} {wi : TI} {g : TG} {te : TE} (hc : X.calm = true) (hst : X.stack = X.env :: X.outer) (hfm : X.env.frame = some X.env.locals) (tk : Takes X (fun cls d _ H => E0 cls d H)) (hN : X.N.Nodup) (hy : X.N[i]? = some y) (hyl : X.env.scope.names.lookup y = some .local)
    (hsw : swapsWith (.ListComp elt [⟨tg, iter, [], 0⟩] scope pos) (some (.Name y py)) spos.line X.env = pure true) (hi : PI X tg iter wi) (ok : BlkOk X.N X.env.scope scope own)
    (hg : ∀ (s : Shared) (H : Hp) (C : Addr) (cl : List (Str × Addr)) (fp : List Addr), PG (X.blk s H scope (compEnvC scope cl C X.env) fp) tg g)
    (he : ∀ (s : Shared) (H : Hp) (C : Addr) (cl : List (Str × Addr)) (fp : List Addr) (xe : Value → Shared → Prop), (∀ σ, PassesAt (L2.CX X.prog X.w) ((X.blk s H scope (compEnvC scope cl C X.env) fp).wish xe) σ E0) → PE ((X.blk s H scope (compEnvC scope cl C X.env) fp).wish xe) elt te)
    (hs : ∀ x, foldedSetIterable iter X.env x = pure x := by intro _; rfl) : PS X (.Assign [.Name y py] (.ListComp elt [⟨tg, iter, [], 0⟩] scope pos) spos) (tAsg (tLc wi g tYes te (own.map (·.2))) (gName i)) := by
  refine ⟨fun pins s σ H D I h => ?_⟩
  rw [exec_Assign_Name_used _ _ _ _ hsw]
  refine wpAny_bind (wpAny_standAt (wpAny_bind ?_))
  show wpAny _ X.A (do let _ ← comprehension (.ListComp elt [⟨tg, iter, [], 0⟩] scope pos) scope X.env (firstIterPos [⟨tg, iter, [], 0⟩] pos) (newList []) false (eval iter X.env) (some (assign (.Name y py) X.env))) _ _ s
  have h : tLc wi g tYes te (own.map (·.2)) σ H (fun x H1 => gName i x σ H1 D.nx) := h
  refine wpAny_bind (thn (lc_coreX (Qf := fun _ s' => SP X pins D .next s') hc hN I hst hfm tk hi ok hg he hs h fun L ce s' m H' I' q hn f => ?_) fun _ s' hq => wpAny_pure (wpAny_pure hq))
  show wpAny _ _ (assign (.Name y py) X.env (.ref L)) _ _ _
  refine wpAny_assign_Name (store_ok2 (v := V.ref L) I' hN hy (.inl hyl) rfl (fun s2 I2 ⟨a, sb, ha⟩ => ?_) (.inr hyl))
  obtain ⟨f0, f1, f2, f3, f4, f5⟩ := f
  have haC : ce.locals ≠ a := by
    rcases ha with z | z
    · rw [z]; exact f1
    · exact fun e => f4 y a z e.symm
  exact ⟨m, hn.sameBut sb haC, fun h3 sb3 => ⟨_, H', I2.turned (t' := s2.toks) (fun b o hb e => (sb3.2 b hb).trans e) f0 f1 f3 f4 f5, q⟩⟩
end
end Dl

namespace Dl
open PySem PySem.Builtin Rf SX
/-! texts of numbers, rows, cycles: plain -/
def txN (n : Int) : Str := Str.ofString (toString n)
/-- the number of a word -/
def pn (w : Str) : Option Int := match intText? w with
  | some n => if (-99 ≤ n ∧ n ≤ 99) ∧ txN n = w then some n else none
  | none => none
theorem num199 {Q : Int → Prop} (h : ∀ n : Fin 199, Q ((n.val : Int) - 99)) {n : Int} (h1 : -99 ≤ n) (h2 : n ≤ 99) : Q n := by
  have := h ⟨(n + 99).toNat, by omega⟩
  rw [show (((n + 99).toNat : Int) - 99) = n from by omega] at this
  exact this
theorem int_tx {n : Int} (h1 : -99 ≤ n) (h2 : n ≤ 99) : intText? (txN n) = some n := num199 (Q := fun n => intText? (txN n) = some n) (by decide +kernel) h1 h2
theorem pn_tx {n : Int} (h1 : -99 ≤ n) (h2 : n ≤ 99) : pn (txN n) = some n := by
  unfold pn
  rw [int_tx h1 h2]
  show (if (-99 ≤ n ∧ n ≤ 99) ∧ txN n = txN n then some n else none) = some n
  rw [if_pos ⟨⟨h1, h2⟩, rfl⟩]
theorem pn_some {w : Str} {n : Int} (h : pn w = some n) : (-99 ≤ n ∧ n ≤ 99) ∧ txN n = w := by
  unfold pn at h
  split at h
  · split at h
    · rename_i hz
      cases h
      exact hz
    · cases h
  · cases h
def plainL (l : List Nat) : List Nat := if l.take 1 = [45] then l.drop 1 else l
def digL (l : List Nat) : Bool := l.all fun c => decide (48 ≤ c) && decide (c ≤ 57)
def numL (l : List Nat) : Bool := (decide (1 ≤ (plainL l).length) && decide ((plainL l).length ≤ 2)) && digL (plainL l)
theorem num_tx {n : Int} (h1 : -99 ≤ n) (h2 : n ≤ 99) : numL (txN n).cps.toList = true ∧ (32 ∉ (txN n).cps.toList ∧ 46 ∉ (txN n).cps.toList) := num199 (Q := fun n => numL (txN n).cps.toList = true ∧ (32 ∉ (txN n).cps.toList ∧ 46 ∉ (txN n).cps.toList)) (by decide +kernel) h1 h2
theorem num_int {l : List Nat} (h : numL l = true) : ∃ n, intText? (S l) = some n ∧ -99 ≤ n ∧ n ≤ 99 ∧ l.length ≤ 3 := by
  simp only [numL, Bool.and_eq_true, decide_eq_true_eq] at h
  obtain ⟨⟨h1, h2⟩, h3⟩ := h
  have dg : ∀ c ∈ plainL l, ∃ i : Fin 10, c = 48 + i.val := fun c hc => by
    have := List.all_eq_true.mp h3 c hc
    simp only [Bool.and_eq_true, decide_eq_true_eq] at this
    exact ⟨⟨c - 48, by omega⟩, by show c = 48 + (c - 48); omega⟩
  have fin : ∀ o : Option Int, o.any (fun n => decide (-99 ≤ n) && decide (n ≤ 99)) = true → ∃ n, o = some n ∧ -99 ≤ n ∧ n ≤ 99 := fun o ho => by
    cases o with
    | none => cases ho
    | some n =>
      simp only [Option.any_some, Bool.and_eq_true, decide_eq_true_eq] at ho
      exact ⟨n, rfl, ho⟩
  have k1 : ∀ i : Fin 10, (intText? (S [48 + i.val])).any (fun n => decide (-99 ≤ n) && decide (n ≤ 99)) = true := by decide +kernel
  have k2 : ∀ i j : Fin 10, (intText? (S [48 + i.val, 48 + j.val])).any (fun n => decide (-99 ≤ n) && decide (n ≤ 99)) = true := by decide +kernel
  have k3 : ∀ i : Fin 10, (intText? (S [45, 48 + i.val])).any (fun n => decide (-99 ≤ n) && decide (n ≤ 99)) = true := by decide +kernel
  have k4 : ∀ i j : Fin 10, (intText? (S [45, 48 + i.val, 48 + j.val])).any (fun n => decide (-99 ≤ n) && decide (n ≤ 99)) = true := by decide +kernel
  have sh : l = plainL l ∨ l = 45 :: plainL l := by
    unfold plainL
    split
    · rename_i hz
      right
      cases l with
      | nil => cases hz
      | cons c r =>
        have : c = 45 := by simpa using hz
        subst this
        rfl
    · exact .inl rfl
  generalize plainL l = p at h1 h2 dg sh
  match p, h1, h2, dg with
  | [a], _, _, dg =>
    obtain ⟨i, rfl⟩ := dg a (by simp)
    rcases sh with rfl | rfl
    · obtain ⟨n, e, z⟩ := fin _ (k1 i); exact ⟨n, e, z.1, z.2, by simp⟩
    · obtain ⟨n, e, z⟩ := fin _ (k3 i); exact ⟨n, e, z.1, z.2, by simp⟩
  | [a, b], _, _, dg =>
    obtain ⟨i, rfl⟩ := dg a (by simp)
    obtain ⟨j, rfl⟩ := dg b (by simp)
    rcases sh with rfl | rfl
    · obtain ⟨n, e, z⟩ := fin _ (k2 i j); exact ⟨n, e, z.1, z.2, by simp⟩
    · obtain ⟨n, e, z⟩ := fin _ (k4 i j); exact ⟨n, e, z.1, z.2, by simp⟩
  | _ :: _ :: _ :: _, _, h2, _ => simp at h2; 
theorem pn_no {l : List Nat} (h : numL l = false) : pn (S l) = none := by
  cases e : pn (S l) with
  | none => rfl
  | some n =>
    obtain ⟨⟨h1, h2⟩, e2⟩ := pn_some e
    have := (num_tx h1 h2).1
    rw [e2] at this
    rw [show numL (S l).cps.toList = numL l from rfl, h] at this
    cases this
theorem pn_is {l : List Nat} {n : Int} (h : intText? (S l) = some n) (h1 : -99 ≤ n) (h2 : n ≤ 99) : pn (S l) = if txN n = S l then some n else none := by
  unfold pn
  rw [h]
  show (if (-99 ≤ n ∧ n ≤ 99) ∧ txN n = S l then some n else none) = _
  by_cases hz : txN n = S l
  · rw [if_pos ⟨⟨h1, h2⟩, hz⟩, if_pos hz]
  · rw [if_neg (fun z => hz z.2), if_neg hz]
/-! ### split, join -/
theorem pre_app {b l : List Nat} (h : TL.pre b l = true) : l = b ++ l.drop b.length := by
  have e : l.take b.length = b := eq_of_beq h
  have := List.take_append_drop b.length l
  rw [e] at this
  exact this.symm
theorem joinL_cons {b p : List Nat} {q : List (List Nat)} (h : q ≠ []) : TL.joinL b (p :: q) = p ++ (b ++ TL.joinL b q) := by
  cases q with
  | nil => exact absurd rfl h
  | cons x r => rfl
theorem spl_ne {b : List Nat} : ∀ (k : Nat) (acc l : List Nat), TL.spl b k acc l ≠ []
  | k, acc, [] => by rw [TL.spl_nil]; simp
  | 0, acc, c :: r => by
    cases h : TL.pre b (c :: r) with
    | true => rw [TL.spl_hit h]; simp
    | false => rw [TL.spl_miss h]; exact spl_ne 0 _ r
  | k + 1, acc, c :: r => spl_ne k acc r
theorem join_spl {b : List Nat} (hb : b ≠ []) : ∀ (n : Nat) (acc l : List Nat), l.length ≤ n → TL.joinL b (TL.spl b 0 acc l) = acc ++ l
  | _, acc, [], _ => by rw [TL.spl_nil, List.append_nil]; rfl
  | 0, acc, c :: r, h => by simp at h
  | n + 1, acc, c :: r, h => by
    rw [List.length_cons] at h
    cases hp : TL.pre b (c :: r) with
    | false =>
      rw [TL.spl_miss hp, join_spl hb n _ r (by omega), List.append_assoc]; rfl
    | true =>
      rw [TL.spl_hit hp, joinL_cons (spl_ne _ _ _), TL.spl_pass, join_spl hb n [] _ (by rw [List.length_drop]; omega), List.nil_append]
      have e := pre_app hp
      rw [show b.length = (b.length - 1) + 1 from by have := List.length_pos_iff.mpr hb; omega, List.drop_succ_cons] at e
      rw [e]
theorem join_split {a b : Str} (hb : b.cps.toList ≠ []) (hk : b.cps.toList.all (· < 256) = true) : Txt.join b (Txt.split a b) = a := by
  rw [← S_tl a, ← S_tl b, split_S hb hk, join_S, join_spl hb _ _ _ (Nat.le_refl _), List.nil_append]
theorem spl_len {b : List Nat} : ∀ (k : Nat) (acc l p : List Nat), p ∈ TL.spl b k acc l → p.length ≤ acc.length + l.length
  | k, acc, [], p, h => by rw [TL.spl_nil, List.mem_singleton] at h; rw [h]; simp
  | 0, acc, c :: r, p, h => by
    cases hp : TL.pre b (c :: r) with
    | true =>
      rw [TL.spl_hit hp] at h
      rcases List.mem_cons.mp h with h | h
      · rw [h]; omega
      · have := spl_len _ [] r p h
        simp at this ⊢; omega
    | false =>
      rw [TL.spl_miss hp] at h
      have := spl_len 0 _ r p h
      simp at this ⊢; omega
  | k + 1, acc, c :: r, p, h => by
    have := spl_len k acc r p h
    simp at this ⊢; omega
theorem spl_num {b : List Nat} : ∀ (k : Nat) (acc l : List Nat), (TL.spl b k acc l).length ≤ l.length + 1
  | k, acc, [] => by rw [TL.spl_nil]; simp
  | 0, acc, c :: r => by
    cases hp : TL.pre b (c :: r) with
    | true => rw [TL.spl_hit hp]; have := spl_num (b := b) (b.length - 1) [] r; simp; omega
    | false => rw [TL.spl_miss hp]; have := spl_num (b := b) 0 (acc ++ [c]) r; simp; omega
  | k + 1, acc, c :: r => by
    have := spl_num (b := b) k acc r
    show (TL.spl b k acc r).length ≤ _
    simp; omega
theorem len_tl (a : Str) : a.cps.toList.length = a.length := by simp [Str.length]
theorem split_len {a b p : Str} (hb : b.cps.toList ≠ []) (hk : b.cps.toList.all (· < 256) = true) (h : p ∈ Txt.split a b) : p.length ≤ a.length := by
  rw [← S_tl a, ← S_tl b, split_S hb hk] at h
  obtain ⟨x, hx, rfl⟩ := List.mem_map.mp h
  have := spl_len _ _ _ _ hx
  rw [S_len]
  simp [Str.length] at this ⊢; omega
theorem split_num {a b : Str} (hb : b.cps.toList ≠ []) (hk : b.cps.toList.all (· < 256) = true) : (Txt.split a b).length ≤ a.length + 1 := by
  rw [← S_tl a, ← S_tl b, split_S hb hk, List.length_map]
  have := spl_num (b := b.cps.toList) 0 [] a.cps.toList
  rw [S_len]
  exact this
theorem sep1 : (" " : Str).cps.toList ≠ [] ∧ (" " : Str).cps.toList.all (· < 256) = true := by decide +kernel
theorem sep2 : (".." : Str).cps.toList ≠ [] ∧ (".." : Str).cps.toList.all (· < 256) = true := by decide +kernel
theorem sep1e : (" " : Str) = S [32] := by decide +kernel
theorem sep2e : (".." : Str) = S [46, 46] := by decide +kernel
theorem split_join1 {ys : List Str} (hne : ys ≠ []) (h : ∀ y ∈ ys, 32 ∉ y.cps.toList) : Txt.split (Txt.join " " ys) " " = ys := TL.split_join (s := 32) (S := []) (by rw [sep1e]) (by rw [sep1e]; decide +kernel) hne h
theorem split_join2 {ys : List Str} (hne : ys ≠ []) (h : ∀ y ∈ ys, 46 ∉ y.cps.toList) : Txt.split (Txt.join ".." ys) ".." = ys := TL.split_join (s := 46) (S := [46]) (by rw [sep2e]) (by rw [sep2e]; decide +kernel) hne h
/-! ### rows -/
def pnv (w : Str) : Int := (pn w).getD 0
def fmtR (r : List Int) : Str := Txt.join " " (r.map txN)
def pRow (t : Str) : Option (List Int) := if (Txt.split t " ").all (fun w => (pn w).isSome) = true ∧ isRowD (dI ((Txt.split t " ").map pnv)) = true then some ((Txt.split t " ").map pnv) else none
theorem pnv_tx {w : Str} (h : (pn w).isSome = true) : txN (pnv w) = w := by
  obtain ⟨n, e⟩ := Option.isSome_iff_exists.mp h
  unfold pnv
  rw [e]
  exact (pn_some e).2
theorem map_id {α : Type} {f : α → α} : ∀ {l : List α}, (∀ x ∈ l, f x = x) → l.map f = l
  | [], _ => rfl
  | x :: l, h => by rw [List.map_cons, h x List.mem_cons_self, map_id fun y hy => h y (List.mem_cons_of_mem _ hy)]
theorem pRow_some {t : Str} {r : List Int} (h : pRow t = some r) : fmtR r = t ∧ RowOk r := by
  unfold pRow at h
  split at h
  · rename_i hz
    cases h
    obtain ⟨ns, e, ho⟩ := isRowD_some hz.2
    have e2 : (Txt.split t " ").map pnv = ns := by
      have := congrArg (fun d => match d with | PyData.list ds => ds | _ => []) e
      exact List.map_inj_right (fun a b z => by cases z; rfl) |>.mp this
    refine ⟨?_, by rw [e2]; exact ho⟩
    unfold fmtR
    rw [List.map_map, map_id (f := txN ∘ pnv) (fun w hw => pnv_tx (List.all_eq_true.mp hz.1 w hw))]
    exact join_split sep1.1 sep1.2
  · cases h
theorem pRow_fmt {r : List Int} (h : RowOk r) : pRow (fmtR r) = some r := by
  have e : Txt.split (fmtR r) " " = r.map txN := split_join1 (by simpa using h.1) (fun y hy => by
    obtain ⟨n, hn, rfl⟩ := List.mem_map.mp hy
    exact (num_tx (h.2.2 n hn).1 (h.2.2 n hn).2).2.1)
  have e2 : (r.map txN).map pnv = r := by
    rw [List.map_map]
    exact map_id fun n hn => by show (pn (txN n)).getD 0 = n; rw [pn_tx (h.2.2 n hn).1 (h.2.2 n hn).2]; rfl
  have hall : (r.map txN).all (fun w => (pn w).isSome) = true := List.all_eq_true.mpr fun w hw => by
    obtain ⟨n, hn, rfl⟩ := List.mem_map.mp hw
    rw [pn_tx (h.2.2 n hn).1 (h.2.2 n hn).2]; rfl
  unfold pRow
  rw [e, e2, if_pos ⟨hall, isRowD_dI h⟩]
/-! ### cycles -/
def pw (w : Str) : Option (Int × Int) := match Txt.split w ".." with
  | [a, b] => (match pn a, pn b with
    | some x, some y => some (x, y)
    | _, _ => none)
  | _ => none
def pwv (w : Str) : Int × Int := (pw w).getD (0, 0)
def wds (t : Str) : List Str := if t = "" then [] else Txt.split t " "
def pCyc (t : Str) : Option (List (Int × Int)) := if (wds t).all (fun w => (pw w).isSome) = true ∧ areCyD (dC ((wds t).map pwv)) = true then some ((wds t).map pwv) else none
theorem joinS2 (a b : Str) : Txt.join ".." [a, b] = (a ++ "..") ++ b := by
  rw [TL.join_eq]; rfl
theorem str_empty (a : Str) : Str.empty ++ a = a := TL.ext_tl (by rw [TL.tl_append]; rfl)
theorem fmtP_join (p : Int × Int) : fmtP p = Txt.join ".." [txN p.1, txN p.2] := by
  rw [joinS2]
  unfold fmtP
  rw [str_empty]; rfl
theorem pw_some {w : Str} {p : Int × Int} (h : pw w = some p) : fmtP p = w ∧ (-99 ≤ p.1 ∧ p.1 ≤ 99) ∧ (-99 ≤ p.2 ∧ p.2 ≤ 99) := by
  unfold pw at h
  split at h
  · rename_i a b e
    split at h
    · rename_i x y e1 e2
      cases h
      obtain ⟨z1, z2⟩ := pn_some e1
      obtain ⟨z3, z4⟩ := pn_some e2
      refine ⟨?_, z1, z3⟩
      rw [fmtP_join]
      show Txt.join ".." [txN x, txN y] = w
      rw [z2, z4, ← e]
      exact join_split sep2.1 sep2.2
    · cases h
  · cases h
theorem pw_fmt {p : Int × Int} (h : (-99 ≤ p.1 ∧ p.1 ≤ 99) ∧ (-99 ≤ p.2 ∧ p.2 ≤ 99)) : pw (fmtP p) = some p := by
  have e : Txt.split (fmtP p) ".." = [txN p.1, txN p.2] := by
    rw [fmtP_join]
    refine split_join2 (by simp) fun y hy => ?_
    simp only [List.mem_cons, List.not_mem_nil, or_false] at hy
    rcases hy with rfl | rfl
    · exact (num_tx h.1.1 h.1.2).2.2
    · exact (num_tx h.2.1 h.2.2).2.2
  unfold pw
  rw [e]
  simp only [pn_tx h.1.1 h.1.2, pn_tx h.2.1 h.2.2]
theorem fmtP_no32 {p : Int × Int} (h : (-99 ≤ p.1 ∧ p.1 ≤ 99) ∧ (-99 ≤ p.2 ∧ p.2 ≤ 99)) : 32 ∉ (fmtP p).cps.toList := by
  rw [fmtP_join, joinS2]
  intro z
  have e : ((txN p.1 ++ "..") ++ txN p.2).cps.toList = ((txN p.1).cps.toList ++ (".." : Str).cps.toList) ++ (txN p.2).cps.toList := (TL.tl_append _ _).trans (congrArg (· ++ _) (TL.tl_append _ _))
  rw [e] at z
  rcases List.mem_append.mp z with z | z
  · rcases List.mem_append.mp z with z | z
    · exact (num_tx h.1.1 h.1.2).2.1 z
    · exact absurd z (by decide +kernel)
  · exact (num_tx h.2.1 h.2.2).2.1 z
theorem fmtC_nil : fmtC [] = "" := by decide +kernel
theorem pCyc_some {t : Str} {cs : List (Int × Int)} (h : pCyc t = some cs) : fmtC cs = t ∧ CyOk cs := by
  unfold pCyc at h
  split at h
  · rename_i hz
    cases h
    obtain ⟨ns, e, ho⟩ := areCyD_some hz.2
    have e2 : (wds t).map pwv = ns := by
      have := congrArg (fun d => match d with | PyData.list ds => ds.map toCy | _ => []) e
      have this : ((List.map pwv (wds t)).map cy).map toCy = (ns.map cy).map toCy := this
      rw [map_toCy, map_toCy] at this
      exact this
    refine ⟨?_, by rw [e2]; exact ho⟩
    unfold fmtC
    rw [List.map_map, map_id (f := fmtP ∘ pwv) (fun w hw => ?_)]
    · unfold wds
      split
      · rename_i e3; rw [e3]; exact fmtC_nil
      · exact join_split sep1.1 sep1.2
    · obtain ⟨p, e3⟩ := Option.isSome_iff_exists.mp (List.all_eq_true.mp hz.1 w hw)
      show fmtP ((pw w).getD (0, 0)) = w
      rw [e3]
      exact (pw_some e3).1
  · cases h
theorem pCyc_fmt {cs : List (Int × Int)} (h : CyOk cs) : pCyc (fmtC cs) = some cs := by
  have hb : ∀ p ∈ cs, (-99 ≤ p.1 ∧ p.1 ≤ 99) ∧ (-99 ≤ p.2 ∧ p.2 ≤ 99) := fun p hp => by have := h.2.1 p hp; omega
  have e : wds (fmtC cs) = cs.map fmtP := by
    by_cases hc : cs = []
    · subst hc
      rw [fmtC_nil]; rfl
    · have e1 : Txt.split (fmtC cs) " " = cs.map fmtP := split_join1 (by simpa using hc) (fun y hy => by
        obtain ⟨p, hp, rfl⟩ := List.mem_map.mp hy
        exact fmtP_no32 (hb p hp))
      unfold wds
      rw [if_neg, e1]
      intro z
      rw [z] at e1
      have e3 : Txt.split "" " " = [("" : Str)] := by decide +kernel
      rw [e3] at e1
      cases cs with
      | nil => exact hc rfl
      | cons p r =>
        rw [List.map_cons] at e1
        injection e1 with e4 _
        have e5 := congrArg Str.length e4
        rw [fmtP_join, joinS2, Str.length_append, Str.length_append] at e5
        have e6 : ((".." : Str)).length = 2 := by decide +kernel
        have e7 : (("" : Str)).length = 0 := by decide +kernel
        omega
  have e2 : (cs.map fmtP).map pwv = cs := by
    rw [List.map_map]
    exact map_id fun p hp => by show (pw (fmtP p)).getD (0, 0) = p; rw [pw_fmt (hb p hp)]; rfl
  have hall : (cs.map fmtP).all (fun w => (pw w).isSome) = true := List.all_eq_true.mpr fun w hw => by
    obtain ⟨p, hp, rfl⟩ := List.mem_map.mp hw
    rw [pw_fmt (hb p hp)]; rfl
  unfold pCyc
  rw [e, e2, if_pos ⟨hall, areCyD_dC h⟩]
/-- what is parsed -/
def prs0 : PyData → PyData
  | .str t => (match pRow t with
    | some r => dI r
    | none => .str "text")
  | _ => .str "text"
def prs1 : PyData → PyData
  | .str t => (match pCyc t with
    | some r => dC r
    | none => .str "text")
  | _ => .str "text"
theorem prs0_some {t : Str} {r : List Int} (h : pRow t = some r) : prs0 (.str t) = dI r := by
  have e : prs0 (.str t) = (match pRow t with | some r => dI r | none => PyData.str "text") := rfl
  rw [e, h]
theorem prs0_none {t : Str} (h : pRow t = none) : prs0 (.str t) = .str "text" := by
  have e : prs0 (.str t) = (match pRow t with | some r => dI r | none => PyData.str "text") := rfl
  rw [e, h]
theorem prs1_some {t : Str} {r : List (Int × Int)} (h : pCyc t = some r) : prs1 (.str t) = dC r := by
  have e : prs1 (.str t) = (match pCyc t with | some r => dC r | none => PyData.str "text") := rfl
  rw [e, h]
theorem prs1_none {t : Str} (h : pCyc t = none) : prs1 (.str t) = .str "text" := by
  have e : prs1 (.str t) = (match pCyc t with | some r => dC r | none => PyData.str "text") := rfl
  rw [e, h]
end Dl

namespace Dl
open PySem PySem.Builtin L2 Rf
/-! texts: the rules of a context -/
section
variable {X : Cx}
def rStrI : List V → Hp → VK → Prop := fun xs H Q => ∃ i : Int, xs = [.int i] ∧ i.natAbs.log2 < 1920 ∧ Q (.str (toString i)) H
theorem cb_strI : CallR X (.type "str") rStrI := call_str_int
def rIntS : List V → Hp → VK → Prop := fun xs H Q => ∃ a n, xs = [.str a] ∧ PySem.intText? a = some n ∧ a.length ≤ 640 ∧ Q (.int n) H
theorem cb_intS : CallR X (.type "int") rIntS := call_int_str
def rSplit : V → List V → Hp → VK → Prop := fun x xs H Q => ∃ a b, x = .str a ∧ xs = [.str b] ∧ (b.length == 0) = false ∧ a.length + 2 ≤ sizeLine ∧ rNewStrs (Txt.split a b) H Q
theorem pe_splitS {o e : Expr} {to te : TE} {apos pos : Pos} (ho : PE X o to) (he : PE X e te) (hs : starEach [e] X.env = [(false, eval e X.env)] := by rfl) (hbase : attributeBase o "split" X.env (eval o X.env) = eval o X.env := by rfl) (hline : (apos.endLine == pos.line) = true := by rfl) :
    PE X (.Call (.Attribute o "split" apos) [e] [] pos) (tM1 rSplit to te) := pe_split ho he hs hbase hline
def rInS : R2 := fun x y H Q => ∃ i j, x = .str i ∧ y = .str j ∧ Q (.bl (!(Builtin.Str.occurrences j i 0 j.length 1).isEmpty)) H
theorem op_inS : OpR X (compareOp .In) rInS := op_in_str
end
section
variable {ρ : Rho} {ta tb te : TE} {K : PySem.W.Frag} {E : XK} {P : Out → Prop} {i : Nat} {ds : List PyData}
theorem rc_strI {i : Int} (h : i.natAbs.log2 < 1920) : RC rStrI [.int i] (.str (txN i)) := fun G H vs e hv Q q => by
  cases hv with
  | cons h1 h2 =>
    cases h2
    cases h1
    exact ⟨i, rfl, h, q _ G H (.refl e) (.str _)⟩
theorem rc_intS {a : Str} {n : Int} (h : PySem.intText? a = some n) (hl : a.length ≤ 640) : RC rIntS [.str a] (.int n) := fun G H vs e hv Q q => by
  cases hv with
  | cons h1 h2 =>
    cases h2
    cases h1
    exact ⟨a, n, rfl, h, hl, q _ G H (.refl e) (.int _)⟩
theorem dvs_strs {H : Hp} : ∀ ns : List Str, Dvs H (ns.map V.str) (ns.map PyData.str)
  | [] => .nil
  | n :: ns => .cons (.str n) (dvs_strs ns)
theorem en_split {a b : Str} (ha : ED ta ρ (.str a)) (hb : ED tb ρ (.str b)) (h1 : (b.length == 0) = false) (h2 : a.length ≤ 16777000) : EN (tM1 rSplit ta tb) ρ ((Txt.split a b).map PyData.str) := fun G H σ w Q q =>
  ha G H σ w _ fun v G1 H1 x1 k1 => by
    cases k1
    refine ⟨⟨_, rfl⟩, hb G1 H1 σ (w.grow x1) _ fun u G2 H2 x2 k2 => ?_⟩
    cases k2
    have x := x1.trans x2
    refine ⟨a, b, rfl, rfl, h1, by rw [sizeLine_eq]; omega, fun p hp => ?_⟩
    exact q p _ G2 _ (x.trans (.hid x.e hp)) (x.h.free hp) (x.e.free hp) upd_same (dvs_strs _)
theorem ed_split {a b : Str} (ha : ED ta ρ (.str a)) (hb : ED tb ρ (.str b)) (h1 : (b.length == 0) = false) (h2 : a.length ≤ 16777000) : ED (tM1 rSplit ta tb) ρ (.list ((Txt.split a b).map PyData.str)) := (en_split ha hb h1 h2).ed
theorem ed_slS {z : Str} {tl th : TO} {lo hi : Option Int} (h : ED te ρ (.str z)) (hl : z.length ≤ 16777216) (h1 : EO tl ρ lo) (h2 : EO th ρ hi) : ED (tSl C8.rSlX te tl th) ρ (.str (Txt.slice z lo hi)) := fun G H σ w Q q =>
  h G H σ w _ fun v G1 H1 x1 hd => h1 G1 H1 σ (w.grow x1) _ fun H2 x2 => h2 G1 H2 σ ((w.grow x1).more x2) _ fun H3 x3 => by
    cases hd
    exact ⟨z, rfl, size_of hl, q _ G1 H3 (x1.trans (Gr.flat x1.e (x2.trans x3))) (.str _)⟩
theorem rd_inS {x y : Str} : RD rInS (.str x) (.str y) (.bool (!(Builtin.Str.occurrences y x 0 y.length 1).isEmpty)) := fun G H v w e h1 h2 Q q => by
  cases h1; cases h2
  exact ⟨x, y, rfl, rfl, q _ G H (.refl e) (.bl _)⟩
theorem dec_str {x y : Str} : decide (V.str x = V.str y) = decide (x = y) := by
  rw [decide_eq_decide]
  exact ⟨fun z => by cases z; rfl, fun z => by rw [z]⟩
theorem rd_eqX {x y : Str} : RD rEq (.str x) (.str y) (.bool (decide (x = y))) := fun G H v w e h1 h2 Q q => by
  cases h1; cases h2
  exact ⟨rfl, by rw [dec_str]; exact q _ G H (.refl e) (.bl _)⟩
theorem rd_neX {x y : Str} : RD rNe (.str x) (.str y) (.bool (!decide (x = y))) := fun G H v w e h1 h2 Q q => by
  cases h1; cases h2
  exact ⟨rfl, by rw [dec_str]; exact q _ G H (.refl e) (.bl _)⟩
/-- the signs of a text -/
def sgn (x : Str) : List Str := x.cps.toList.map fun c => (⟨#[c]⟩ : Str)
theorem wk_str {G : Hp} {x : Str} : Wk (Its x) G ((sgn x).map PyData.str) where
  go := fun i H s hi => by
    rw [List.length_map] at hi
    unfold sgn at hi
    rw [List.length_map, Array.length_toList] at hi
    exact hi
  yl := fun i d H v H' s q y G1 s1 s2 => by
    obtain ⟨e, c, hc, y⟩ := y
    subst e y
    unfold sgn at q
    rw [List.getElem?_map, List.getElem?_map, Array.getElem?_toList, hc] at q
    cases q
    exact ⟨G1, .refl s2, .str _⟩
  st := fun H s => by
    unfold sgn
    rw [List.length_map, List.length_map, Array.length_toList]
    exact Nat.le_refl _
theorem ei_str {x : Str} (h : ED te ρ (.str x)) : EI (iStr te) ρ ((sgn x).map PyData.str) := fun G H σ w R r => h G H σ w _ fun v G1 H1 x1 hd => by
  cases hd
  exact ⟨x, rfl, r _ G1 H1 x1 wk_str⟩
theorem ed_lcS {i : Nat} {vs : List Nat} {tt : TT} {t2 : TE} {x : Str} {e : Str → PyData} {r : List PyData} (hi : ED te ρ (.str x)) (hl : x.length < 16777216) (hv : vs = [i])
    (ht : ∀ c, c ∈ sgn x → ET tt (ρ.set i (.dat (.str c))) true) (he : ∀ c, c ∈ sgn x → ED t2 (ρ.set i (.dat (.str c))) (e c)) (hz : (sgn x).map e = r) : ED (tLc (iStr te) (gName i) tt t2 vs) ρ (.list r) := by
  subst hv hz
  have := (en_lc (f := fun _ => true) (en := PyData.str) (e := e) (ei_str hi) (ks := [i]) (tt := tt) (te := t2) (fun _ h => h) (size_lt (by unfold sgn; rw [List.length_map, len_tl]; exact hl)) fun c hc => ⟨_, tv_name, by rw [set_wipe]; exact ht c hc, fun _ => by rw [set_wipe]; exact he c hc⟩).ed
  rw [List.filter_eq_self.mpr (fun _ _ => rfl)] at this
  exact this
/-- xs.append((f(a), f(b))), f may raise C -/
theorem so_appPr {rel : List PyData → Rs → Prop} {d1 d2 : PyData} {r1 r2 : Rs} (q : ρ[i]? = some (Sl.own ds)) (h1 : ED ta ρ d1) (h2 : ED tb ρ d2) (k1 : rel [d1] r1) (k2 : rel [d2] r2) (hl : ds.length < 16777216)
    (e1 : ∀ C, r1 = .er C → P (.exc C)) (e2 : ∀ C, r2 = .er C → P (.exc C)) (e3 : ∀ es, r1 ≠ .nw es ∧ r2 ≠ .nw es) (e4 : ∀ x y, r1 = .ok x → r2 = .ok y → P (.nxt (ρ.set i (.own (ds ++ [.tuple [x, y]]))))) :
    SO E (tDrop (tBM K "list" rAppend (tVar i) (tCons (tTup (tCons (tCallS (PrS rel) (WE fun cls d _ H => E cls d H) (tCons ta tNil)) (tCons (tCallS (PrS rel) (WE fun cls d _ H => E cls d H) (tCons tb tNil)) tNil))) tNil))) ρ P := fun Pv G0 H0 G H σ D s k => by
  obtain ⟨o, xs, a1, a2, a3, a4, a5, _⟩ := s.mut (ds' := ds) q
  refine ⟨_, a1, .inl ⟨rfl, _, SqL.of a2⟩, ?_⟩
  refine h1 G H σ s.vw _ fun v G1 H1 x1 hv => ⟨G1, [d1], r1, x1.e, .cons hv .nil, k1, ?_⟩
  have s1 := s.grow x1
  cases r1 with
  | er C => exact fun H' y => k.xc C G1 H' (e1 C rfl) (s1.more y).fm
  | nw es => exact absurd rfl (e3 es).1
  | ok x =>
    intro v2 G2 H2 x2 hv2
    have s2 := s1.grow x2
    refine h2 G2 H2 σ s2.vw _ fun v3 G3 H3 x3 hv3 => ⟨G3, [d2], r2, x3.e, .cons hv3 .nil, k2, ?_⟩
    have s3 := s2.grow x3
    cases r2 with
    | er C => exact fun H' y => k.xc C G3 H' (e2 C rfl) (s3.more y).fm
    | nw es => exact absurd rfl (e3 es).2
    | ok y =>
      intro v4 G4 H4 x4 hv4
      have s4 := s3.grow x4
      refine ⟨size_of (by simp), fun p hp => ?_⟩
      have x5 := Gr.new (o := .tup [v2, v4]) s4.fm.e hp
      have s5 := s4.grow x5
      obtain ⟨o', xs', b1, b2, b3, b4, b5, b6⟩ := s5.mut (ds' := ds ++ [.tuple [x, y]]) q
      rw [a1] at b1; cases b1
      exact ⟨o, xs', _, rfl, rfl, b2, by rw [b3.len]; exact size_lt hl, k.nx _ _ _ _ (e4 x y rfl rfl) ((((x1.g.trans x2.g).trans x3.g).trans x4.g).trans x5.g) (b6 _ (b3.app (.cons (.tup upd_same (.cons ((hv2.up ((x3.g.trans x4.g).trans x5.g))) (.cons (hv4.up x5.g) .nil))) .nil)))⟩
end
/-! digits -/
theorem digE : ("0123456789" : Str) = SX.S [48, 49, 50, 51, 52, 53, 54, 55, 56, 57] := by decide +kernel
def inDig (c : Str) : Bool := !(Builtin.Str.occurrences ("0123456789" : Str) c 0 ("0123456789" : Str).length 1).isEmpty
theorem in_dig (c : Nat) : inDig (⟨#[c]⟩ : Str) = (decide (48 ≤ c) && decide (c ≤ 57)) := by
  unfold inDig
  rw [digE]
  refine (SX.in_one [48, 49, 50, 51, 52, 53, 54, 55, 56, 57] c).trans ?_
  rw [Bool.eq_iff_iff]
  simp only [decide_eq_true_eq, Bool.and_eq_true, List.mem_cons, List.not_mem_nil, or_false]
  omega
theorem dig_all (l : List Nat) : ((sgn (SX.S l)).map inDig).all id = digL l := by
  unfold sgn digL
  rw [List.map_map, List.all_map]
  show l.all _ = l.all _
  congr 1
  funext c
  exact in_dig c
theorem mnE : ("-" : Str) = SX.S [45] := by decide +kernel
/-- what a def answers, or its exception -/
def orC (C : Addr) : Option PyData → Rs
  | some d => .ok d
  | none => .er C
def isS : PyData → Bool
  | .str _ => true
  | _ => false
theorem kb_S {d : PyData} : kitB (tyn d) "str" = some (isS d) := by
  cases d with
  | int i => exact kb_int_str
  | bool b => exact kb_bool_str
  | none => exact kb_NoneType_str
  | str x => exact kb_str_str
  | tuple x => exact kb_tuple_str
  | dict x => exact kb_dict_str
  | list ds => exact kb_list_str
theorem pRow_no {t w : Str} (h : w ∈ Txt.split t " ") (e : pn w = none) : pRow t = none := by
  unfold pRow
  rw [if_neg]
  intro z
  have := List.all_eq_true.mp z.1 w h
  rw [e] at this
  cases this
theorem pCyc_no {t w : Str} (h : w ∈ wds t) (e : pw w = none) : pCyc t = none := by
  unfold pCyc
  rw [if_neg]
  intro z
  have := List.all_eq_true.mp z.1 w h
  rw [e] at this
  cases this
theorem pw_len {w : Str} (h : ¬ (Txt.split w "..").length = 2) : pw w = none := by
  unfold pw
  split
  · rename_i a b e
    rw [e] at h
    exact absurd rfl h
  · rfl
theorem pw_no {w a b : Str} (e : Txt.split w ".." = [a, b]) (h : pn a = none ∨ pn b = none) : pw w = none := by
  unfold pw
  rw [e]
  rcases h with h | h
  · simp only [h]
  · simp only [h]
    cases pn a <;> rfl
theorem pw_yes {w a b : Str} {m k : Int} (e : Txt.split w ".." = [a, b]) (h1 : pn a = some m) (h2 : pn b = some k) : pw w = some (m, k) := by
  unfold pw
  rw [e]
  simp only [h1, h2]
theorem row_sum {ns : List Int} (h : ∀ x ∈ ns, -99 ≤ x ∧ x ≤ 99) (hl : ns.length ≤ 24) : ((ns.map txN).map (·.length)).sum + (ns.map txN).length * (" " : Str).length ≤ 4 * ns.length := by
  have key : ∀ ns : List Int, (∀ x ∈ ns, -99 ≤ x ∧ x ≤ 99) → ((ns.map txN).map (·.length)).sum ≤ 3 * ns.length := by
    intro ns
    induction ns with
    | nil => intro _; simp
    | cons x r ih =>
      intro h
      have h1 := numLen (h x List.mem_cons_self).1 (h x List.mem_cons_self).2
      have h2 := ih fun y hy => h y (List.mem_cons_of_mem _ hy)
      have h1 : (txN x).length ≤ 3 := h1
      simp only [List.map_cons, List.sum_cons, List.length_cons]
      omega
  have e1 : ((" " : Str)).length = 1 := by decide +kernel
  have := key ns h
  rw [List.length_map, e1]
  omega
/-! lengths -/
theorem joinL_len (b : List Nat) : ∀ ps : List (List Nat), (TL.joinL b ps).length ≤ (ps.map (·.length)).sum + ps.length * b.length
  | [] => by simp [TL.joinL]
  | [p] => by simp [TL.joinL]
  | p :: q :: r => by
    have h := joinL_len b (q :: r)
    show (p ++ (b ++ TL.joinL b (q :: r))).length ≤ _
    rw [List.length_append, List.length_append]
    have e : (p :: q :: r).length * b.length = b.length + (q :: r).length * b.length := by rw [List.length_cons, Nat.add_mul, Nat.one_mul, Nat.add_comm]
    rw [e, List.map_cons, List.sum_cons]
    omega
theorem join_len (b : Str) (ys : List Str) : (Txt.join b ys).length ≤ (ys.map (·.length)).sum + ys.length * b.length := by
  have h := joinL_len b.cps.toList (ys.map fun y => y.cps.toList)
  have e : Txt.join b ys = SX.S (TL.joinL b.cps.toList (ys.map fun y => y.cps.toList)) := by
    have := SX.join_S b.cps.toList (ys.map fun y => y.cps.toList)
    rw [SX.S_tl, List.map_map, map_id (f := SX.S ∘ fun y => y.cps.toList) (fun y _ => SX.S_tl y)] at this
    exact this
  rw [e, SX.S_len]
  rw [List.map_map, List.length_map, len_tl] at h
  have e2 : ys.map ((·.length) ∘ fun y => y.cps.toList) = ys.map (·.length) := List.map_congr_left fun y _ => len_tl y
  rw [e2] at h
  exact h
theorem fmtR_len {ns : List Int} (h : RowOk ns) : (fmtR ns).length ≤ 4 * ns.length := Nat.le_trans (join_len _ _) (row_sum h.2.2 h.2.1)
theorem fmtC_len {cs : List (Int × Int)} (h : CyOk cs) : (fmtC cs).length ≤ 9 * cs.length := by
  have h1 := fmt_sum cs fun p hp => by have := h.2.1 p hp; omega
  have h2 := join_len " " (cs.map fmtP)
  have e1 : ((" " : Str)).length = 1 := by decide +kernel
  rw [List.length_map, e1] at h2
  unfold fmtC
  omega
theorem sl_to {z : Str} {i : Int} (h : 0 ≤ i) : (Txt.slice z none (some i)).length ≤ z.length := by
  rw [← SX.S_tl z, SX.slice_to h, SX.S_len, SX.S_len, List.length_take]
  omega
theorem sl_from {z : Str} {i : Int} (h : 0 ≤ i) : (Txt.slice z (some i) none).length ≤ z.length := by
  rw [← SX.S_tl z, SX.slice_from h, SX.S_len, SX.S_len, List.length_drop]
  omega
/-! texts that are rejected -/
def isT9 : PyData → Bool
  | .str t => decide (t = "text")
  | _ => false
theorem texts_all {f : PyData → PyData} : ∀ {ds : List PyData}, (ds.map f).all isT9 = true → ds.map f = (List.replicate ds.length ("text" : Str)).map PyData.str
  | [], _ => rfl
  | d :: ds, h => by
    rw [List.map_cons, List.all_cons, Bool.and_eq_true] at h
    rw [List.map_cons, texts_all h.2, List.length_cons, List.replicate_succ, List.map_cons]
    congr 1
    have h1 := h.1
    generalize f d = x at h1
    cases x with
    | str t => rw [of_decide_eq_true h1]
    | _ => cases h1
def okL : PyData → Bool
  | .str t => decide (t.length ≤ 1000)
  | _ => true
theorem okL_all {ds : List PyData} (h : ds.all okL = true) : ∀ d ∈ ds, ∀ t, d = .str t → t.length ≤ 1000 := fun d hd t e => by
  have := List.all_eq_true.mp h d hd
  rw [e] at this
  exact of_decide_eq_true this
def odds0 : List PyData := [.none, .int 5, .str "", .str " ", .str "1 ", .str " 1", .str "1  2", .str "01", .str "+1", .str "-0", .str "--1", .str "a", .str "1,2", .str "100", .str "-100", .str "1.0", .str (Txt.join " " (List.replicate 25 "0"))]
def odds1 : List PyData := [.none, .int 5, .str " ", .str "1", .str "1..", .str "..2", .str "1..1", .str "2..1", .str "1.2", .str "1...2", .str "1..2..3", .str "1..2 ", .str " 1..2", .str "1..2  1..3", .str "1..3 1..2", .str "01..2", .str "1..100", .str "-100..1", .str "a..b", .str (Txt.join " " (List.replicate 11 "0..1"))]
theorem odd0_ok : odds0.all okL = true := by decide +kernel
theorem odd1_ok : odds1.all okL = true := by decide +kernel
theorem odd0_no : (odds0.map prs0).all isT9 = true := by decide +kernel
theorem odd1_no : (odds1.map prs1).all isT9 = true := by decide +kernel
theorem odd0_is : prs0 (.str "5 -99 0") = dI [5, -99, 0] := prs0_some (by decide +kernel)
theorem odd1_is : prs1 (.str "-2..4 -2..4 0..1") = dC [(-2, 4), (-2, 4), (0, 1)] := prs1_some (by decide +kernel)
theorem prs1_nil : prs1 (.str "") = dC [] := prs1_some (by decide +kernel)
theorem wds_len {t w : Str} (h : w ∈ wds t) : w.length ≤ t.length := by
  unfold wds at h
  split at h
  · cases h
  · exact split_len sep1.1 sep1.2 h
theorem wds_num (t : Str) : (wds t).length ≤ t.length + 1 := by
  unfold wds
  split
  · simp
  · exact split_num sep1.1 sep1.2
end Dl

namespace Lw
open PySem L2 Dl Rf
def topS (i : Nat) : Stmt := PySem.Challenge.pw_rainrows_k13_whole_texts.main.body.getD i (.Pass ⟨0, 0, 0, 0⟩)
abbrev s_is_int : Stmt := topS 11
abbrev s_is_row : Stmt := topS 12
abbrev s_check_row : Stmt := topS 13
abbrev s_is_cycle : Stmt := topS 14
abbrev s_are_cycles : Stmt := topS 15
abbrev s_check_cycles : Stmt := topS 16
abbrev s_parse_number : Stmt := topS 19
abbrev s_check_text : Stmt := topS 20
abbrev s_format_row : Stmt := topS 21
abbrev s_parse_row : Stmt := topS 22
abbrev s_format_cycles : Stmt := topS 23
abbrev s_parse_cycles : Stmt := topS 24
abbrev s__law_start : Stmt := topS 26
abbrev s__law_draw : Stmt := topS 27
abbrev s__law_pick : Stmt := topS 28
abbrev s__law_error : Stmt := topS 29
abbrev s__law_row : Stmt := topS 30
abbrev s__law_cycles : Stmt := topS 31
abbrev s__law_written : Stmt := topS 32
abbrev s__law_parsed : Stmt := topS 33
abbrev s__law_rejected : Stmt := topS 34
abbrev s_law : Stmt := topS 35
structure TX (K : PySem.W.Frag) (mg : Str → Option Value) where
  a_is_int : Addr
  d_is_int : FuncData
  F_is_int : Fun K "is_int" "is_int" s_is_int a_is_int d_is_int
  b_is_int : Binds K d_is_int ["value", "low", "high"] []
  g_is_int : mg "is_int" = some (.ref a_is_int)
  a_is_row : Addr
  d_is_row : FuncData
  F_is_row : Fun K "is_row" "is_row" s_is_row a_is_row d_is_row
  b_is_row : Binds K d_is_row ["value"] []
  g_is_row : mg "is_row" = some (.ref a_is_row)
  a_check_row : Addr
  d_check_row : FuncData
  F_check_row : Fun K "check_row" "check_row" s_check_row a_check_row d_check_row
  b_check_row : Binds K d_check_row ["value"] []
  g_check_row : mg "check_row" = some (.ref a_check_row)
  a_is_cycle : Addr
  d_is_cycle : FuncData
  F_is_cycle : Fun K "is_cycle" "is_cycle" s_is_cycle a_is_cycle d_is_cycle
  b_is_cycle : Binds K d_is_cycle ["value"] []
  g_is_cycle : mg "is_cycle" = some (.ref a_is_cycle)
  a_are_cycles : Addr
  d_are_cycles : FuncData
  F_are_cycles : Fun K "are_cycles" "are_cycles" s_are_cycles a_are_cycles d_are_cycles
  b_are_cycles : Binds K d_are_cycles ["value"] []
  g_are_cycles : mg "are_cycles" = some (.ref a_are_cycles)
  a_check_cycles : Addr
  d_check_cycles : FuncData
  F_check_cycles : Fun K "check_cycles" "check_cycles" s_check_cycles a_check_cycles d_check_cycles
  b_check_cycles : Binds K d_check_cycles ["value"] []
  g_check_cycles : mg "check_cycles" = some (.ref a_check_cycles)
  a_parse_number : Addr
  d_parse_number : FuncData
  F_parse_number : Fun K "parse_number" "parse_number" s_parse_number a_parse_number d_parse_number
  b_parse_number : Binds K d_parse_number ["word"] []
  g_parse_number : mg "parse_number" = some (.ref a_parse_number)
  a_check_text : Addr
  d_check_text : FuncData
  F_check_text : Fun K "check_text" "check_text" s_check_text a_check_text d_check_text
  b_check_text : Binds K d_check_text ["text"] []
  g_check_text : mg "check_text" = some (.ref a_check_text)
  a_format_row : Addr
  d_format_row : FuncData
  F_format_row : Fun K "format_row" "format_row" s_format_row a_format_row d_format_row
  b_format_row : Binds K d_format_row ["row"] []
  g_format_row : mg "format_row" = some (.ref a_format_row)
  a_parse_row : Addr
  d_parse_row : FuncData
  F_parse_row : Fun K "parse_row" "parse_row" s_parse_row a_parse_row d_parse_row
  b_parse_row : Binds K d_parse_row ["text"] []
  g_parse_row : mg "parse_row" = some (.ref a_parse_row)
  a_format_cycles : Addr
  d_format_cycles : FuncData
  F_format_cycles : Fun K "format_cycles" "format_cycles" s_format_cycles a_format_cycles d_format_cycles
  b_format_cycles : Binds K d_format_cycles ["cycles"] []
  g_format_cycles : mg "format_cycles" = some (.ref a_format_cycles)
  a_parse_cycles : Addr
  d_parse_cycles : FuncData
  F_parse_cycles : Fun K "parse_cycles" "parse_cycles" s_parse_cycles a_parse_cycles d_parse_cycles
  b_parse_cycles : Binds K d_parse_cycles ["text"] []
  g_parse_cycles : mg "parse_cycles" = some (.ref a_parse_cycles)
  a__law_start : Addr
  d__law_start : FuncData
  F__law_start : Fun K "_law_start" "_law_start" s__law_start a__law_start d__law_start
  b__law_start : Binds K d__law_start ["script"] []
  g__law_start : mg "_law_start" = some (.ref a__law_start)
  a__law_draw : Addr
  d__law_draw : FuncData
  F__law_draw : Fun K "_law_draw" "_law_draw" s__law_draw a__law_draw d__law_draw
  b__law_draw : Binds K d__law_draw ["draws", "limit"] []
  g__law_draw : mg "_law_draw" = some (.ref a__law_draw)
  a__law_pick : Addr
  d__law_pick : FuncData
  F__law_pick : Fun K "_law_pick" "_law_pick" s__law_pick a__law_pick d__law_pick
  b__law_pick : Binds K d__law_pick ["draws", "choices"] []
  g__law_pick : mg "_law_pick" = some (.ref a__law_pick)
  a__law_error : Addr
  d__law_error : FuncData
  F__law_error : Fun K "_law_error" "_law_error" s__law_error a__law_error d__law_error
  b__law_error : Binds K d__law_error ["caught"] []
  g__law_error : mg "_law_error" = some (.ref a__law_error)
  a__law_row : Addr
  d__law_row : FuncData
  F__law_row : Fun K "_law_row" "_law_row" s__law_row a__law_row d__law_row
  b__law_row : Binds K d__law_row ["draws", "most"] []
  g__law_row : mg "_law_row" = some (.ref a__law_row)
  a__law_cycles : Addr
  d__law_cycles : FuncData
  F__law_cycles : Fun K "_law_cycles" "_law_cycles" s__law_cycles a__law_cycles d__law_cycles
  b__law_cycles : Binds K d__law_cycles ["draws", "row", "most"] []
  g__law_cycles : mg "_law_cycles" = some (.ref a__law_cycles)
  a__law_written : Addr
  d__law_written : FuncData
  F__law_written : Fun K "_law_written" "_law_written" s__law_written a__law_written d__law_written
  b__law_written : Binds K d__law_written ["kind", "thing"] []
  g__law_written : mg "_law_written" = some (.ref a__law_written)
  a__law_parsed : Addr
  d__law_parsed : FuncData
  F__law_parsed : Fun K "_law_parsed" "_law_parsed" s__law_parsed a__law_parsed d__law_parsed
  b__law_parsed : Binds K d__law_parsed ["kind", "text"] []
  g__law_parsed : mg "_law_parsed" = some (.ref a__law_parsed)
  a__law_rejected : Addr
  d__law_rejected : FuncData
  F__law_rejected : Fun K "_law_rejected" "_law_rejected" s__law_rejected a__law_rejected d__law_rejected
  b__law_rejected : Binds K d__law_rejected [] []
  g__law_rejected : mg "_law_rejected" = some (.ref a__law_rejected)
  a_law : Addr
  d_law : FuncData
  F_law : Fun K "law" "law" s_law a_law d_law
  b_law : Binds K d_law ["script"] []
  g_law : mg "law" = some (.ref a_law)
  C_RainError : Addr
  g_RainError : mg "RainError" = some (.ref C_RainError)
  x_RainError : PySem.W.excIn K C_RainError [.type "ValueError", .type "Exception", .type "BaseException", .type "object"] "ValueError.__new__" = true
  k_RainError : PySem.W.keepIn K (.ref C_RainError) = true
  e_RainError : PySem.W.subIn K (.ref C_RainError) (.type "BaseException") = some true
  t_RainError : PySem.W.typeIn K (.ref C_RainError) = some (.type "type")
  C_BadRow : Addr
  g_BadRow : mg "BadRow" = some (.ref C_BadRow)
  x_BadRow : PySem.W.excIn K C_BadRow [.type "ValueError", .type "Exception", .type "BaseException", .type "object"] "ValueError.__new__" = true
  k_BadRow : PySem.W.keepIn K (.ref C_BadRow) = true
  e_BadRow : PySem.W.subIn K (.ref C_BadRow) (.type "BaseException") = some true
  t_BadRow : PySem.W.typeIn K (.ref C_BadRow) = some (.type "type")
  C_BadCycles : Addr
  g_BadCycles : mg "BadCycles" = some (.ref C_BadCycles)
  x_BadCycles : PySem.W.excIn K C_BadCycles [.type "ValueError", .type "Exception", .type "BaseException", .type "object"] "ValueError.__new__" = true
  k_BadCycles : PySem.W.keepIn K (.ref C_BadCycles) = true
  e_BadCycles : PySem.W.subIn K (.ref C_BadCycles) (.type "BaseException") = some true
  t_BadCycles : PySem.W.typeIn K (.ref C_BadCycles) = some (.type "type")
  C_BadRest : Addr
  g_BadRest : mg "BadRest" = some (.ref C_BadRest)
  x_BadRest : PySem.W.excIn K C_BadRest [.type "ValueError", .type "Exception", .type "BaseException", .type "object"] "ValueError.__new__" = true
  k_BadRest : PySem.W.keepIn K (.ref C_BadRest) = true
  e_BadRest : PySem.W.subIn K (.ref C_BadRest) (.type "BaseException") = some true
  t_BadRest : PySem.W.typeIn K (.ref C_BadRest) = some (.type "type")
  C_BadNumber : Addr
  g_BadNumber : mg "BadNumber" = some (.ref C_BadNumber)
  x_BadNumber : PySem.W.excIn K C_BadNumber [.type "ValueError", .type "Exception", .type "BaseException", .type "object"] "ValueError.__new__" = true
  k_BadNumber : PySem.W.keepIn K (.ref C_BadNumber) = true
  e_BadNumber : PySem.W.subIn K (.ref C_BadNumber) (.type "BaseException") = some true
  t_BadNumber : PySem.W.typeIn K (.ref C_BadNumber) = some (.type "type")
  C_BadText : Addr
  g_BadText : mg "BadText" = some (.ref C_BadText)
  x_BadText : PySem.W.excIn K C_BadText [.type "ValueError", .type "Exception", .type "BaseException", .type "object"] "ValueError.__new__" = true
  k_BadText : PySem.W.keepIn K (.ref C_BadText) = true
  e_BadText : PySem.W.subIn K (.ref C_BadText) (.type "BaseException") = some true
  t_BadText : PySem.W.typeIn K (.ref C_BadText) = some (.type "type")
  C_NotFound : Addr
  g_NotFound : mg "NotFound" = some (.ref C_NotFound)
  x_NotFound : PySem.W.excIn K C_NotFound [.type "ValueError", .type "Exception", .type "BaseException", .type "object"] "ValueError.__new__" = true
  k_NotFound : PySem.W.keepIn K (.ref C_NotFound) = true
  e_NotFound : PySem.W.subIn K (.ref C_NotFound) (.type "BaseException") = some true
  t_NotFound : PySem.W.typeIn K (.ref C_NotFound) = some (.type "type")
  tk_MOST_VALUES : Tok
  c_MOST_VALUES : mg "MOST_VALUES" = some (.int 24 tk_MOST_VALUES)
  tk_MOST_VALUE : Tok
  c_MOST_VALUE : mg "MOST_VALUE" = some (.int 99 tk_MOST_VALUE)
  tk_MOST_CYCLES : Tok
  c_MOST_CYCLES : mg "MOST_CYCLES" = some (.int 10 tk_MOST_CYCLES)
  tk_DIGITS : Tok
  c_DIGITS : mg "DIGITS" = some (.str "0123456789" tk_DIGITS)
  e6_BadRow : ErrK K [C_BadRow, C_BadCycles, C_BadRest, C_BadNumber, C_BadText, C_NotFound] C_RainError C_BadRow 0
  e6_BadCycles : ErrK K [C_BadRow, C_BadCycles, C_BadRest, C_BadNumber, C_BadText, C_NotFound] C_RainError C_BadCycles 1
  e6_BadRest : ErrK K [C_BadRow, C_BadCycles, C_BadRest, C_BadNumber, C_BadText, C_NotFound] C_RainError C_BadRest 2
  e6_BadNumber : ErrK K [C_BadRow, C_BadCycles, C_BadRest, C_BadNumber, C_BadText, C_NotFound] C_RainError C_BadNumber 3
  e6_BadText : ErrK K [C_BadRow, C_BadCycles, C_BadRest, C_BadNumber, C_BadText, C_NotFound] C_RainError C_BadText 4
  e6_NotFound : ErrK K [C_BadRow, C_BadCycles, C_BadRest, C_BadNumber, C_BadText, C_NotFound] C_RainError C_NotFound 5
  z_ValueError : mg "ValueError" = none
  z_all : mg "all" = none
  z_bool : mg "bool" = none
  z_int : mg "int" = none
  z_isinstance : mg "isinstance" = none
  z_len : mg "len" = none
  z_list : mg "list" = none
  z_max : mg "max" = none
  z_min : mg "min" = none
  z_range : mg "range" = none
  z_sorted : mg "sorted" = none
  z_str : mg "str" = none
  z_tuple : mg "tuple" = none
def TX.Es {K : PySem.W.Frag} {mg : Str → Option Value} (T : TX K mg) : List (Addr × Str) := [(T.C_BadRow, "row"), (T.C_BadCycles, "cycles"), (T.C_BadRest, "rest"), (T.C_BadNumber, "number"), (T.C_BadText, "text"), (T.C_NotFound, "none")]
section
variable {P : Program} {w : World} {K : PySem.W.Frag} {mg : Str → Option Value} {base : Heap}
local macro_rules | `(tactic| walk_at "side") => `(tactic| first | with_reducible assumption | omega | assumption | decide | (unfold CDivN; omega) | (unfold CPow; omega) | (show _ ≠ _; omega) | (simp only [List.length_cons, List.length_nil]; omega) | (refine Nat.lt_of_le_of_lt (len_mf _ _ _ _) ?_; omega) | (refine Nat.le_trans (len_mf _ _ _ _) ?_; omega) | (simp only [Rf.cy_, Rf.re_, List.length_append] at *; omega))
local macro_rules | `(tactic| walk_at "rel") => `(tactic| fail "no relation")
local macro_rules | `(tactic| walk_at "cv") => `(tactic| first
  | ((with_reducible apply cv_yes); walk_at "cv")
  | exact cv_int (fun _ => rfl)
  | exact cv_bool (fun _ => rfl)
  | exact cv_cy (fun _ => rfl)
  | exact cv_pair (fun _ => rfl)
  | exact cv_tE (fun _ => rfl)
  | exact cv_row (fun _ => rfl)
  | rfl)
local macro_rules | `(tactic| walk_at "rd") => `(tactic| first
  | with_reducible exact rd_add
  | with_reducible exact rd_i
  | with_reducible exact rd_b
  | with_reducible exact rd_eqI
  | with_reducible exact rd_neI
  | with_reducible exact rd_eqB
  | with_reducible exact rd_neB
  | ((with_reducible apply rd_ixM) <;> try (walk_at "side"))
  | with_reducible exact rd_eqL
  | with_reducible exact rd_neL
  | ((with_reducible apply rd_eqS) <;> try (first | with_reducible assumption | decide +kernel))
  | ((with_reducible apply rd_neS) <;> try (first | with_reducible assumption | decide +kernel))
  | with_reducible exact rd_eqN
  | with_reducible exact rd_neN
  | with_reducible exact rd_eqC
  | with_reducible exact rd_neC
  | with_reducible exact rd_eqCN
  | with_reducible exact rd_neCN
  | with_reducible exact rd_cy0
  | with_reducible exact rd_t0
  | with_reducible exact rd_t1
  | with_reducible exact rd_cy1
  | with_reducible exact rd_isB
  | with_reducible exact rd_notB
  | with_reducible exact rd_isN
  | with_reducible exact rd_notN
  | with_reducible exact rd_inI
  | with_reducible exact rd_notInI
  | with_reducible exact rd_inC
  | with_reducible exact rd_notInC
  | ((with_reducible apply rd_catM) <;> try (walk_at "side"))
  | ((with_reducible apply rd_cat1) <;> try (walk_at "side"))
  | ((with_reducible apply rd_cat2) <;> try (walk_at "side"))
  | ((with_reducible apply rd_c) <;> try (walk_at "side"))
  | with_reducible exact rd_eqCy
  | with_reducible exact rd_eqT
  | with_reducible exact rd_neT
  | with_reducible exact rd_neCy
  | ((with_reducible apply rd_repI) <;> try (walk_at "side"))
  | ((with_reducible apply rd_mul) <;> try (walk_at "side"))
  | skip)
local macro_rules | `(tactic| walk_at "rc") => `(tactic| first
  | with_reducible exact rc_lenM
  | with_reducible exact rc_len
  | with_reducible exact rc_abs
  | with_reducible exact rc_max2
  | with_reducible exact rc_min2
  | ((with_reducible apply rc_max) <;> try (walk_at "side"))
  | ((with_reducible apply rc_min) <;> try (walk_at "side"))
  | with_reducible exact rc_sum
  | with_reducible exact rc_all
  | with_reducible exact rc_srtI
  | with_reducible exact rc_srtC
  | with_reducible exact rc_list
  | with_reducible exact rc_tupL
  | skip)
local macro_rules | `(tactic| walk_at "ev") => `(tactic| first
  | ((with_reducible apply ed_var); rfl)
  | with_reducible exact ed_int
  | with_reducible exact ed_bl
  | with_reducible exact ed_str
  | with_reducible exact ed_non
  | with_reducible exact ea_nil
  | with_reducible exact et_yes
  | with_reducible exact eo_none
  | ((with_reducible apply ea_cons) <;> (walk_at "ev"))
  | ((with_reducible apply ed_op) <;> (walk_at "ev"))
  | ((with_reducible apply ed_cb) <;> (walk_at "ev"))
  | ((with_reducible apply ed_call) <;> (walk_at "ev"))
  | ((with_reducible apply ed_un) <;> (walk_at "ev"))
  | ((with_reducible apply ed_chain) <;> (walk_at "ev"))
  | ((with_reducible apply ed_and) <;> (walk_at "ev"))
  | ((with_reducible apply ed_or) <;> (walk_at "ev"))
  | ((with_reducible apply ed_not) <;> (walk_at "ev"))
  | ((with_reducible apply ed_if) <;> (walk_at "ev"))
  | ((with_reducible apply et_test) <;> (walk_at "ev"))
  | ((with_reducible apply et_B) <;> (walk_at "ev"))
  | ((with_reducible apply et_and) <;> (walk_at "ev"))
  | ((with_reducible apply et_or) <;> (walk_at "ev"))
  | ((with_reducible apply et_not) <;> (walk_at "ev"))
  | ((with_reducible apply eo_some) <;> (walk_at "ev"))
  | ((with_reducible apply ed_tup) <;> (walk_at "ev"))
  | ((with_reducible apply ed_slM) <;> (walk_at "ev"))
  | ((with_reducible apply ed_countI) <;> ((walk_at "ev"); done))
  | ((with_reducible apply ed_countC) <;> ((walk_at "ev"); done))
  | ((with_reducible apply ed_indexI) <;> (walk_at "ev"))
  | ((with_reducible apply ed_lst) <;> (walk_at "ev"))
  | ((with_reducible apply ed_rev) <;> (walk_at "ev"))
  | ((with_reducible apply ed_lcR1) <;> (walk_at "ev"))
  | ((with_reducible apply ed_lcR2) <;> (walk_at "ev"))
  | ((with_reducible apply ed_lcL) <;> (walk_at "ev"))
  | ((with_reducible apply ed_lcC) <;> (walk_at "ev"))
  | ((with_reducible apply ed_lcT) <;> (walk_at "ev"))
  | ((with_reducible apply en_lcR1) <;> (walk_at "ev"))
  | ((with_reducible apply en_lcR2) <;> (walk_at "ev"))
  | ((with_reducible apply en_lcL) <;> (walk_at "ev"))
  | ((with_reducible apply en_lcC) <;> (walk_at "ev"))
  | ((with_reducible apply en_lcT) <;> (walk_at "ev"))
  | ((with_reducible apply en_slM) <;> (walk_at "ev"))
  | ((with_reducible apply en_lst) <;> (walk_at "ev"))
  | ((with_reducible show TV _ _ _ _ _); first | exact tv_name | exact tv_pair)
  | ((with_reducible show TS_ _ _ _ _); first | exact ts_name | exact ts_pair)
  | ((with_reducible show RD _ _ _ _); walk_at "rd")
  | ((with_reducible show RC _ _ _); walk_at "rc")
  | ((with_reducible show ∀ k, _ ≤ k → k < _ → ET _ _ _); intro k hk1 hk2; walk_at "ev")
  | ((with_reducible show ∀ k, _ ≤ k → k < _ → _ = true → ED _ _ _); intro k hk1 hk2 hk3; walk_at "ev")
  | ((with_reducible show ∀ x, x ∈ _ → ET _ _ _); intro x hx; walk_at "ev")
  | ((with_reducible show ∀ x, x ∈ _ → _ = true → ED _ _ _); intro x hx hx2; walk_at "ev")
  | ((with_reducible show _ = [_]); rfl)
  | ((with_reducible show _ = [_, _]); rfl)
  | ((with_reducible show List.map _ _ = _); walk_at "cv")
  | with_reducible exact fun _ => Dv.int _
  | ((with_reducible show _ = _ → _); intro _; walk_at "ev")
  | walk_at "rel"
  | walk_at "side"
  | skip)
def rel_is_int : List PyData → Rs → Prop := Rl3 (fun (d : PyData) (lo hi : Int) => [d, .int lo, .int hi]) (fun d lo hi r => r = .ok (.bool (isIntD lo hi d)))
theorem cl_is_int {d : PyData} {lo hi : Int} : rel_is_int [d, .int lo, .int hi] (.ok (.bool (isIntD lo hi d))) := ⟨d, lo, hi, rfl, rfl⟩
theorem sc_is_int : FnScope ["value", "low", "high"] ["value", "low", "high"] (defScope s_is_int) := ⟨rfl, rfl, rfl, by decide +kernel, rfl, by decide +kernel, by decide +kernel⟩
theorem ok_is_int (T : TX K mg) : FnOk P w K mg base CX0 1 T.a_is_int T.d_is_int ["value", "low", "high"] (PrS rel_is_int) := by
  refine T.F_is_int.ok sc_is_int (fun vs H Q E h => prs_len h (rl3_len (fun _ _ _ => rfl))) (fun cdv A outer s H vs Q E hr h => ?_)
  obtain ⟨G, ds, r, e, hv, hrel, wsh⟩ := h
  refine ⟨_, (pss_one (ps_ret (pe_and (pe_callB (cb_isiK (K := K) rfl) (by rfl) T.z_isinstance (by decide +kernel) (pa_cons (pv 0) (pa_cons (pe_bltn (v := .ty "int") (by rfl) T.z_int (by decide +kernel) rfl) pa_nil))) (pe_and (pe_not (pe_callB (cb_isiK (K := K) rfl) (by rfl) T.z_isinstance (by decide +kernel) (pa_cons (pv 0) (pa_cons (pe_bltn (v := .ty "bool") (by rfl) T.z_bool (by decide +kernel) rfl) pa_nil)))) (pe_one (pe_chain op_le op_le (pv 1) (pv 0) (pv 2))))))), body_ok e hv wsh ?_⟩
  obtain ⟨d, lo, hi, rfl, rfl⟩ := hrel
  have one : ∀ {te tu tv : TE} {ρ : Rho}, ED te ρ (.bool false) → ED (tAndV te (tAndV tu tv)) ρ (.bool false) := fun h => ed_is (ed_and (b := false) h (fun z => Bool.noConfusion z)) rfl
  have two : ∀ {te tu tv : TE} {ρ : Rho}, ED te ρ (.bool true) → ED tu ρ (.bool false) → ED (tAndV te (tAndV tu tv)) ρ (.bool false) := fun h h2 => ed_is (ed_and h (fun _ => ed_and (b := false) h2 (fun z => Bool.noConfusion z))) rfl
  cases d with
  | int i =>
    refine so_ret (d := .bool (isIntD lo hi (.int i))) ?_ rfl
    refine ed_is (ed_and (a := true) (b := isIntD lo hi (.int i)) (ed_isi (d := .int i) (ed_var rfl) kb_int_int) fun _ => ed_is (ed_and (a := true) (b := isIntD lo hi (.int i)) (ed_not (a := false) (ed_isi (d := .int i) (ed_var rfl) kb_int_bool)) fun _ => ?_) ?_) ?_
    · exact ed_chain (ed_var rfl) (ed_var rfl) rd_b (ed_var rfl) rd_b
    · simp
    · simp
  | bool b => exact so_ret (two (ed_isi (d := .bool b) (ed_var rfl) kb_bool_int) (ed_not (a := true) (ed_isi (d := .bool b) (ed_var rfl) kb_bool_bool))) rfl
  | none => exact so_ret (one (ed_isi (d := .none) (ed_var rfl) kb_NoneType_int)) rfl
  | str x => exact so_ret (one (ed_isi (d := .str x) (ed_var rfl) kb_str_int)) rfl
  | list x => exact so_ret (one (ed_isi (d := .list x) (ed_var rfl) kb_list_int)) rfl
  | tuple x => exact so_ret (one (ed_isi (d := .tuple x) (ed_var rfl) kb_tuple_int)) rfl
  | dict x => exact so_ret (one (ed_isi (d := .dict x) (ed_var rfl) kb_dict_int)) rfl
local macro_rules | `(tactic| walk_at "rel") => `(tactic| with_reducible exact cl_is_int)
def rel_parse_number (C : Addr) : List PyData → Rs → Prop := Rl1 (fun (w : Str) => [.str w]) (fun w r => w.length ≤ 1000 ∧ r = orC C ((pn w).map PyData.int))
theorem cl_parse_number {C : Addr} {w : Str} (h : w.length ≤ 1000) : rel_parse_number C [.str w] (orC C ((pn w).map PyData.int)) := ⟨w, rfl, h, rfl⟩
theorem sc_parse_number : FnScope ["word", "plain", "sign"] ["word"] (defScope s_parse_number) := ⟨rfl, rfl, rfl, by decide +kernel, rfl, by decide +kernel, by decide +kernel⟩
theorem ok_parse_number (T : TX K mg) : FnOk P w K mg base (L2.CX P w) 1 T.a_parse_number T.d_parse_number ["word"] (PrS (rel_parse_number T.C_BadText)) := by
  refine T.F_parse_number.okX sc_parse_number (fun vs H Q E h => prs_len h (rl1_len (fun _ => rfl))) (fun cdv A outer s H vs Q E hr h => ?_)
  obtain ⟨G, ds, r, e, hv, hrel, wsh⟩ := h
  refine ⟨_, (pss_cons (PS_nox (ps_set (i := 1) sc_parse_number.nd rfl (by first | exact Or.inl rfl | exact Or.inr rfl) (pe_ifExp (pt_cmpR op_eq (pe_slice C8.sl_txt (pv 0) po_none (po_some pe_int)) pe_str (nomark _)) (pe_slice C8.sl_txt (pv 0) (po_some pe_int) po_none) (pv 0))))
      (pss_cons (ps_if (PT.nox (PW.pt (pw_or (pt_not (pt_chain op_le op_le pe_int (pe_callB (cb_lenK (K := K) rfl) (by rfl) T.z_len (by decide +kernel) (pa_cons (pv 1) pa_nil)) pe_int)) (pw_or (pt_not (pt_val (pe_callB (cb_allK (K := K) rfl rfl) (by rfl) T.z_all (by decide +kernel) (pa_cons (pe_lc (own := [("sign", 2)]) (g := gName 2) (tt := tYes) (by rfl) sc_parse_number.nd (pi_str (pv 1)) (blkOk_by (N := ["word", "plain", "sign"]) (sc := defScope s_parse_number) (own := [("sign", 2)]) (by decide +kernel)) (fun _ _ _ _ _ => pg_name (i := 2) sc_parse_number.nd rfl (Or.inl rfl)) (fun _ _ _ _ _ => pts_nil) (fun _ _ _ _ _ => (pe_cmpR op_inS (pv 2) (pe_glob (v := .str "0123456789") rfl T.c_DIGITS ⟨_, rfl⟩) (by rfl)))) pa_nil)))) (pw_or1 (pt_cmpR op_ne (pe_callTy cb_strI (by rfl) T.z_str (by decide +kernel) (pa_cons (pe_callTy cb_intS (by rfl) T.z_int (by decide +kernel) (pa_cons (pv 0) pa_nil)) pa_nil)) (pv 0) (nomark _))))))) (pss_one (ps_raise rfl (takes_of rfl rfl rfl rfl) (pmk_own PySem.F.excBase_ValueError T.x_BadText T.g_BadText T.k_BadText (raises_own T.e_BadText T.t_BadText) rfl))) pss_nil)
      (PSs.nox (pss_one (ps_ret (pe_callTy cb_intS (by rfl) T.z_int (by decide +kernel) (pa_cons (pv 0) pa_nil))))))), body_ok e hv wsh ?_⟩
  obtain ⟨w, rfl, hl, rfl⟩ := hrel
  obtain ⟨l, rfl⟩ : ∃ l, w = SX.S l := ⟨_, (SX.S_tl w).symm⟩
  rw [SX.S_len] at hl
  show SO _ _ [.dat (.str (SX.S l)), .un, .un] _
  refine sq_asg (d := .str (SX.S (plainL l))) ?_ ?_
  · refine ed_is (ed_if (b := decide (l.take 1 = [45])) (d1 := .str (SX.S (l.drop 1))) (d2 := .str (SX.S l)) (et_is (et_test (ed_op (ed_slS (ed_var rfl) (by rw [SX.S_len]; omega) eo_none (eo_some ed_int)) ed_str rd_eqX)) ?_) (fun _ => ed_is (ed_slS (ed_var rfl) (by rw [SX.S_len]; omega) (eo_some ed_int) eo_none) ?_) (fun _ => ed_var rfl)) ?_
    · rw [SX.slice_to (by decide), mnE, decide_eq_decide]
      exact ⟨fun z => SX.S_inj z, fun z => by rw [← z]; rfl⟩
    · rw [SX.slice_from (by decide)]; rfl
    · unfold plainL
      by_cases hz : l.take 1 = [45]
      · rw [if_pos hz, decide_eq_true hz]; rfl
      · rw [if_neg hz, decide_eq_false hz]; rfl
  have hpl : (plainL l).length ≤ l.length := by
    unfold plainL
    split
    · have e9 : (l.drop 1).length = l.length - 1 := List.length_drop
      omega
    · exact Nat.le_refl _
  show SO _ _ [.dat (.str (SX.S l)), .dat (.str (SX.S (plainL l))), .un] _
  have ht1 : ET (tNot (tTest (tChain (rI0 fun i j => V.bl (decide (i ≤ j))) (rI0 fun i j => V.bl (decide (i ≤ j))) (tC (V.int 1)) (tCB (rLenA K) (tCons (tVar 1) tNil)) (tC (V.int 2))))) (fz [.dat (.str (SX.S l)), .dat (.str (SX.S (plainL l))), .un]) (!(decide (1 ≤ (plainL l).length) && decide ((plainL l).length ≤ 2))) := by
    refine et_is (et_not (et_test (ed_chain ed_int (ed_cb (ea_cons (ed_var rfl) ea_nil) (rc_lenS (by rw [SX.S_len]; omega))) rd_b ed_int rd_b))) ?_
    rw [SX.S_len]
    congr 1
    by_cases h1 : 1 ≤ (plainL l).length
    · have h1' : (1 : Int) ≤ ((plainL l).length : Int) := by omega
      simp only [h1, h1', decide_true, Bool.true_and, if_true]
      by_cases h2 : (plainL l).length ≤ 2
      · have h2' : ((plainL l).length : Int) ≤ 2 := by omega
        simp [h2, h2']
      · have h2' : ¬ ((plainL l).length : Int) ≤ 2 := by omega
        simp [h2, h2']
    · have h1' : ¬ (1 : Int) ≤ ((plainL l).length : Int) := by omega
      simp [h1, h1']
  have ht2 : ∀ te : TE, te = tLc (iStr (tVar 1)) (gName 2) tYes (tOp rInS (tVar 2) (tC (V.str "0123456789"))) [2] → ET (tNot (tTest (tCB (rAll K) (tCons te tNil)))) (fz [.dat (.str (SX.S l)), .dat (.str (SX.S (plainL l))), .un]) (!(digL (plainL l))) := by
    rintro te rfl
    rw [← dig_all]
    exact et_not (et_B (ed_cb (ea_cons (ed_lcS (e := fun c => .bool (inDig c)) (ed_var rfl) (by rw [SX.S_len]; omega) rfl (fun _ _ => et_yes) (fun c hc => ed_op (ed_var rfl) ed_str rd_inS) (by rw [List.map_map]; rfl)) ea_nil) rc_all))
  by_cases hN : numL l = true
  · obtain ⟨n, hi, h1, h2, h3⟩ := num_int hN
    have hN' := hN
    simp only [numL, Bool.and_eq_true] at hN'
    have hA : (decide (1 ≤ (plainL l).length) && decide ((plainL l).length ≤ 2)) = true := by rw [Bool.and_eq_true]; exact hN'.1
    rw [pn_is hi h1 h2]
    refine so_seq (so_if (b := !decide (txN n = SX.S l)) (et_is (et_or (a := false) (et_is ht1 (by rw [hA]; rfl)) (fun _ => et_or (a := false) (et_is (ht2 _ rfl) (by rw [hN'.2]; rfl)) (fun _ => et_test (ed_op (ed_cb (ea_cons (ed_cb (ea_cons (ed_var rfl) ea_nil) (rc_intS hi (by rw [SX.S_len]; omega))) ea_nil) (rc_strI (numLog h1 h2))) (ed_var rfl) rd_neX)))) (by simp)) (fun h => ?_) (fun h => ?_))
    · have h : ¬ txN n = SX.S l := by simpa using h
      rw [if_neg h]
      exact so_raise rfl
    · have h : txN n = SX.S l := by simpa using h
      rw [if_pos h]
      refine so_next (so_ret (d := .int n) (ed_cb (ea_cons (ed_var rfl) ea_nil) (rc_intS hi (by rw [SX.S_len]; omega))) rfl)
  · have hN : numL l = false := by simpa using hN
    rw [pn_no hN]
    refine so_seq (so_if (b := true) (et_is (et_or (b := true) ht1 (fun ha => et_is (et_or (a := !(digL (plainL l))) (b := false) (ht2 _ rfl) (fun hb => ?_)) ?_)) (by simp)) (fun _ => so_raise rfl) (fun z => by cases z))
    · exfalso
      have ha : (decide (1 ≤ (plainL l).length) && decide ((plainL l).length ≤ 2)) = true := by simpa using ha
      have hb : digL (plainL l) = true := by simpa using hb
      rw [numL, ha, hb] at hN
      cases hN
    · have ha : (decide (1 ≤ (plainL l).length) && decide ((plainL l).length ≤ 2)) = true := by simpa using ha
      rw [numL, ha] at hN
      have hN : digL (plainL l) = false := by simpa using hN
      rw [hN]; rfl
def rel_check_text (C : Addr) : List PyData → Rs → Prop := Rl1 (fun (d : PyData) => [d]) (fun d r => r = if isS d then .ok .none else .er C)
theorem sq_text {E : XK} {ρ : Rho} {P : Out → Prop} {u : TS} {i : Nat} {C : Addr} {d : PyData} (q : (fz ρ)[i]? = some (Sl.dat d)) (h1 : isS d = true → SO E u ρ P) (h2 : isS d = false → P (.exc C)) :
    SO E (tSeq (tDrop (tCallS (PrS (rel_check_text C)) (WE fun cls d _ H => E cls d H) (tCons (tVar i) tNil))) u) ρ P :=
  sq_check (ea_cons (ed_var q) ea_nil) (⟨d, rfl, rfl⟩ : rel_check_text C [d] (if isS d then .ok .none else .er C)) h1 h2
theorem sc_check_text : FnScope ["text"] ["text"] (defScope s_check_text) := ⟨rfl, rfl, rfl, by decide +kernel, rfl, by decide +kernel, by decide +kernel⟩
theorem ok_check_text (T : TX K mg) : FnOk P w K mg base (L2.CX P w) 1 T.a_check_text T.d_check_text ["text"] (PrS (rel_check_text T.C_BadText)) := by
  refine T.F_check_text.okX sc_check_text (fun vs H Q E h => prs_len h (rl1_len (fun _ => rfl))) (fun cdv A outer s H vs Q E hr h => ?_)
  obtain ⟨G, ds, r, e, hv, hrel, wsh⟩ := h
  refine ⟨_, (pss_one (ps_if (PT.nox (pt_not (pt_val (pe_callB (cb_isiK (K := K) rfl) (by rfl) T.z_isinstance (by decide +kernel) (pa_cons (pv 0) (pa_cons (pe_bltn (v := .ty "str") (by rfl) T.z_str (by decide +kernel) rfl) pa_nil)))))) (pss_one (ps_raise rfl (takes_of rfl rfl rfl rfl) (pmk_own PySem.F.excBase_ValueError T.x_BadText T.g_BadText T.k_BadText (raises_own T.e_BadText T.t_BadText) rfl))) pss_nil)), body_ok e hv wsh ?_⟩
  obtain ⟨d, rfl, rfl⟩ := hrel
  refine so_if (b := !isS d) (et_not (et_B (ed_isi (d := d) (ed_var rfl) kb_S))) (fun h => ?_) (fun h => ?_)
  · have h : isS d = false := by simpa using h
    rw [h]
    exact so_raise rfl
  · have h : isS d = true := by simpa using h
    rw [h]
    exact so_next rfl
def sp_start (K : PySem.W.Frag) : Sp := fun vs H Q _ => ∃ (a : Addr) (ns : List Int), vs = [.ref a] ∧ SqL K H a (ns.map V.int) ∧ ns.length ≤ 63 ∧
  ∀ (dr nu : Addr) (ms : List Int) H', Same H H' → H dr = none → H nu = none → dr ≠ nu → ms ≠ [] → ms.length ≤ 63 → H' dr = some (.lst [.ref nu, .int 0]) → H' nu = some (.lst (ms.map V.int)) → Q (.ref dr) H'
theorem sc__law_start : FnScope ["script"] ["script"] (defScope s__law_start) := ⟨rfl, rfl, rfl, by decide +kernel, rfl, by decide +kernel, by decide +kernel⟩
theorem ok__law_start (T : TX K mg) : FnOk P w K mg base CX0 1 T.a__law_start T.d__law_start ["script"] (sp_start K) := by
  refine T.F__law_start.ok sc__law_start (fun vs H Q E h => ?_) (fun cdv A outer s H vs Q E hr h => ?_)
  · obtain ⟨a, ns, rfl, _⟩ := h
    rfl
  · obtain ⟨a, ns, rfl, hS, hlen, q⟩ := h
    refine ⟨_, (pss_one (ps_ret (pe_lst (pa_cons (pe_ifExp (pt_cmpR (op_neK (K := K) rfl hr.units) (pv 0) (pe_lst pa_nil) (nomark _)) (pe_callTy (cb_listK (K := K) rfl) (by rfl) T.z_list (by decide +kernel) (pa_cons (pv 0) pa_nil)) (pe_lst (pa_cons pe_int pa_nil))) (pa_cons pe_int pa_nil))))), ?_⟩
    have fin : ∀ (ms : List Int) (nu : Addr) (H1 : Hp), Same H H1 → H nu = none → H1 nu = some (.lst (ms.map V.int)) → ms ≠ [] → ms.length ≤ 63 → ∀ dr, H1 dr = none → Q (.ref dr) (upd H1 dr (.lst [.ref nu, .int 0])) := fun ms nu H1 s1 hn h1 h2 h3 dr hd => by
      have ne : nu ≠ dr := ne_of_none h1 hd
      exact q dr nu ms _ (s1.trans (same_new hd)) (s1.free hd) hn (Ne.symm ne) h2 h3 upd_same (by rw [upd_ne ne]; exact h1)
    refine ⟨.ref a, rfl, size_of (by decide), fun p hp => ?_⟩
    have hS1 : SqL K (upd H p (.lst [])) a (ns.map V.int) := (same_new hp).seq hS
    have hD : Dp K (upd H p (.lst [])) (.ref a) (dI ns) := .lst hS1 (dvs_dp _ _ (dvs_ints (H := upd H p (.lst [])) ns))
    refine ⟨dI ns, .list [], hD, .lst (SqL.of upd_same) .nil, (pl_dI ns).shaped (by decide), (pl_list (n := 0) (ds := []) fun _ z => by cases z).shaped (by decide), _, rfl, ?_⟩
    rw [eqv_nil]
    cases ns with
    | nil =>
      refine iteF ⟨size_of (by decide), fun nu hn => ⟨size_of (by simp), fun dr hd => ?_⟩⟩
      exact fin [0] nu _ ((same_new hp).trans (same_new hn)) ((same_new hp).free hn) upd_same (by simp) (by simp) dr hd
    | cons x r =>
      refine iteT ⟨.ref a, rfl, a, _, rfl, .inl hS1, fun nu hn => ⟨size_of (by simp), fun dr hd => ?_⟩⟩
      exact fin (x :: r) nu _ ((same_new hp).trans (same_new hn)) ((same_new hp).free hn) upd_same (by simp) hlen dr hd

/-- the law's first statement -/
theorem law_go {N : List Str} {u : TS} {Q : VK} {H : Hp} {a : Addr} {ns : List Int} (hS : SqL K H a (ns.map V.int)) (hlen : ns.length ≤ 63) (hN : 2 ≤ N.length) (q : ∀ H', Q (.bl true) H')
    (k : ∀ (v : V) (h : Hp), SO E0 u (.un :: .prv (DrawR v h) :: List.replicate (N.length - 2) .un) (fun o => ∃ r, o = .ret r (.bool true))) :
    tSeq (tAsg (tCall (sp_start K) [] E0 (tCons (tVar 0) tNil)) (gName 1)) u { nx := fun _ H' => Q .non H', rt := Q } (L2.start N [.ref a]) H := by
  refine ⟨.ref a, rfl, a, ns, rfl, hS, hlen, fun dr nu ms H' s1 d1 n1 ne m1 m2 g1 g2 => ?_⟩
  obtain ⟨n, hn⟩ : ∃ n, N.length = n + 2 := ⟨N.length - 2, by omega⟩
  have e0 : (L2.start N [V.ref a]).set 1 (some (.ref dr)) = some (.ref a) :: some (.ref dr) :: List.replicate n none := by
    unfold L2.start
    simp only [List.map_cons, List.map_nil, List.length_singleton, hn]
    rfl
  have hk := k (.ref dr) (upd (one dr (.lst [.ref nu, .int 0])) nu (.lst (ms.map V.int)))
  rw [hn, Nat.add_sub_cancel] at hk
  show u _ ((L2.start N [V.ref a]).set 1 (some (.ref dr))) H'
  rw [e0]
  have dom : ∀ b, (upd (one dr (.lst [.ref nu, .int 0])) nu (.lst (ms.map V.int))) b ≠ none → b = dr ∨ b = nu := fun b z => by
    by_cases hb : b = nu
    · exact .inr hb
    · rw [upd_ne hb] at z; exact .inl (one_ne z)
  refine hk (fun _ => False) (fun _ => none) H (fun _ => none) H' _ _ ⟨⟨.refl _, fun b o _ z => s1 b o z, fun b z => same_ne s1 z, (fun _ _ z => by cases z), fun _ _ _ => rfl⟩, ⟨(fun _ _ z => by cases z), by simp, fun i d z => ?_⟩, fun i => if i = 1 then upd (one dr (.lst [.ref nu, .int 0])) nu (.lst (ms.map V.int)) else fun _ => none, fun i ds z => ?_, fun i R z => ?_, fun i b o z => ?_, fun i j b hij z => ?_⟩ ⟨fun ρ σ G' H' p _ s => ?_, fun ρ σ G' H' p _ s => ?_, fun ρ σ G' H' p _ s => ?_, fun ρ σ d v G' H' p _ s hv => ?_, fun ρ σ ds p xs G' H' z _ s _ _ _ _ => ?_, fun C G' H' p m => ?_⟩
  · match i, z with
    | 0, z => cases z
    | 1, z => cases z
    | i + 2, z => rw [List.getElem?_cons_succ, List.getElem?_cons_succ, List.getElem?_replicate] at z; split at z <;> cases z
  · match i, z with
    | 0, z => cases z
    | 1, z => cases z
    | i + 2, z => rw [List.getElem?_cons_succ, List.getElem?_cons_succ, List.getElem?_replicate] at z; split at z <;> cases z
  · match i, z with
    | 0, z => cases z
    | 1, z => cases z; exact ⟨_, rfl, rfl, ⟨dr, nu, ms, 0, rfl, ne, m1, m2, rfl⟩, fun _ w => w⟩
    | i + 2, z => rw [List.getElem?_cons_succ, List.getElem?_cons_succ, List.getElem?_replicate] at z; split at z <;> cases z
  · have z : (if i = 1 then upd (one dr (.lst [.ref nu, .int 0])) nu (.lst (ms.map V.int)) else fun _ => none) b = some o := z
    by_cases hi : i = 1
    · rw [if_pos hi] at z
      rcases dom b (by rw [z]; exact Option.some_ne_none _) with w | w
      · subst w
        rw [upd_ne ne] at z
        obtain ⟨_, rfl⟩ := one_some z
        exact ⟨g1, rfl, .inr d1⟩
      · subst w
        rw [upd_same] at z; cases z
        exact ⟨g2, rfl, .inr n1⟩
    · rw [if_neg hi] at z; cases z
  · have z : (if i = 1 then upd (one dr (.lst [.ref nu, .int 0])) nu (.lst (ms.map V.int)) else fun _ => none) b ≠ none := z
    show (if j = 1 then upd (one dr (.lst [.ref nu, .int 0])) nu (.lst (ms.map V.int)) else fun _ => none) b = none
    by_cases hj : j = 1
    · rw [if_neg (fun w => hij (w.trans hj.symm))] at z; exact absurd rfl z
    · rw [if_neg hj]
  · obtain ⟨_, z⟩ := p; cases z
  · obtain ⟨_, z⟩ := p; cases z
  · obtain ⟨_, z⟩ := p; cases z
  · obtain ⟨_, z⟩ := p; cases z; cases hv; exact q H'
  · obtain ⟨_, z⟩ := z; cases z
  · obtain ⟨_, z⟩ := p; cases z
def sp_law (K : PySem.W.Frag) : Sp := fun vs H Q _ => ∃ (a : Addr) (ns : List Int), vs = [.ref a] ∧ SqL K H a (ns.map V.int) ∧ ns.length ≤ 63 ∧ ∀ H', Q (.bl true) H'
def rel__law_draw : List PyData → (PyData → Prop) → Prop := fun ds post => ∃ L : Int, ds = [.int L] ∧ (1 ≤ L ∧ L < 1073741824) ∧ post = fun d => ∃ r, d = .int r ∧ 0 ≤ r ∧ r < L
theorem fmod_in (a : Int) {b : Int} (h : 0 < b) : 0 ≤ a.fmod b ∧ a.fmod b < b := ⟨Int.fmod_nonneg_of_pos a h, Int.fmod_lt_of_pos a h⟩
theorem fdiv_in {a b : Int} (ha : 0 ≤ a) (hb : 0 < b) : 0 ≤ a.fdiv b ∧ a.fdiv b ≤ a := by
  rw [Int.fdiv_eq_ediv_of_nonneg a (by omega)]
  exact ⟨Int.ediv_nonneg ha (by omega), Int.ediv_le_self _ ha⟩
/-- what a draw leaves -/
theorem draw_end {G H H' h : Hp} {dr nu : Addr} {ms ms' : List Int} {c c' : Int} (hne : dr ≠ nu) (hh : h = upd (one dr (.lst [.ref nu, .int c])) nu (.lst (ms.map V.int))) (hsub : Same h H) (hdis : ∀ a, h a ≠ none → G a = none) (e : Same G H)
    (hk : ∀ a o, a ≠ dr → a ≠ nu → H a = some o → H' a = some o) (h1 : H' dr = some (.lst [.ref nu, .int c'])) (h2 : H' nu = some (.lst (ms'.map V.int))) (hms : ms' ≠ []) (hml : ms'.length ≤ 63) :
    ∃ h', Fm (fun a => h a ≠ none) G H G H' ∧ DrawI (.ref dr) h' ∧ (∀ a, h' a ≠ none → h a ≠ none) ∧ Same h' H' := by
  have hd : ∀ a, (a = dr ∨ a = nu) → h a ≠ none := fun a z => by
    subst hh
    by_cases ha : a = nu
    · subst ha; rw [upd_same]; exact Option.some_ne_none _
    · rw [upd_ne ha]
      rcases z with z | z
      · subst z; unfold one; rw [upd_same]; exact Option.some_ne_none _
      · exact absurd z ha
  refine ⟨upd (one dr (.lst [.ref nu, .int c'])) nu (.lst (ms'.map V.int)), ⟨.refl _, fun a o z q => hk a o (fun w => z (hd a (.inl w))) (fun w => z (hd a (.inr w))) q, fun a z => ?_, fun a o z => ?_, fun _ z _ => z⟩, ⟨dr, nu, ms', c', rfl, hne, hms, hml, rfl⟩, fun a z => ?_, fun a o z => ?_⟩
  · by_cases w1 : a = dr
    · subst w1; rw [h1]; exact Option.some_ne_none _
    · by_cases w2 : a = nu
      · subst w2; rw [h2]; exact Option.some_ne_none _
      · cases q : H a with
        | none => exact absurd q z
        | some o => rw [hk a o w1 w2 q]; exact Option.some_ne_none _
  · have w1 : a ≠ dr := fun w => by rw [hdis a (hd a (.inl w))] at z; cases z
    have w2 : a ≠ nu := fun w => by rw [hdis a (hd a (.inr w))] at z; cases z
    exact hk a o w1 w2 (e a o z)
  · refine hd a ?_
    by_cases ha : a = nu
    · exact .inr ha
    · rw [upd_ne ha] at z; exact .inl (one_ne z)
  · by_cases ha : a = nu
    · subst ha; rw [upd_same] at z; cases z; exact h2
    · rw [upd_ne ha] at z
      obtain ⟨rfl, rfl⟩ := one_some z
      exact h1
theorem sc__law_draw : FnScope ["draws", "limit", "numbers", "at", "cell", "mixed"] ["draws", "limit"] (defScope s__law_draw) := ⟨rfl, rfl, rfl, by decide +kernel, rfl, by decide +kernel, by decide +kernel⟩
theorem ok__law_draw (T : TX K mg) : FnOk P w K mg base CX0 1 T.a__law_draw T.d__law_draw ["draws", "limit"] (PrD rel__law_draw) := by
  refine T.F__law_draw.ok sc__law_draw (fun vs H Q E h => ?_) (fun cdv A outer s H vs Q E hr h => ?_)
  · exact prd_len h (n := 1) fun ds p ⟨L, z, _⟩ => by rw [z]; rfl
  · obtain ⟨G, h0, v, ws, ds, post, rfl, ⟨dr, nu, ms, c, rfl, hne, hms, hml, hh⟩, hsub, hdis, e, hw, ⟨L, rfl, ⟨hL1, hL2⟩, rfl⟩, q⟩ := h
    have g1 : H dr = some (.lst [.ref nu, .int c]) := hsub _ _ (by rw [hh, upd_ne hne]; exact one_same)
    have g2 : H nu = some (.lst (ms.map V.int)) := hsub _ _ (by rw [hh]; exact upd_same)
    cases hw with
    | cons hw1 hw2 =>
    cases hw2
    cases hw1
    have hpos := List.length_pos_iff.mpr hms
    refine ⟨_, (pss_cons (ps_set (i := 2) sc__law_draw.nd rfl (by first | exact Or.inl rfl | exact Or.inr rfl) (pe_ix (ix_seqK (K := K) rfl) (pv 0) pe_int (fun _ _ => rfl)))
      (pss_cons (ps_asg (pe_op (op_addK (K := K) rfl) (pe_ix (ix_seqK (K := K) rfl) (pv 0) pe_int (fun _ _ => rfl)) pe_int) (pg_sub (pv 0) pe_int set_list))
      (pss_cons (ps_set (i := 3) sc__law_draw.nd rfl (by first | exact Or.inl rfl | exact Or.inr rfl) (pe_op op_modN (pe_ix (ix_seqK (K := K) rfl) (pv 0) pe_int (fun _ _ => rfl)) (pe_callB (cb_lenK (K := K) rfl) (by rfl) T.z_len (by decide +kernel) (pa_cons (pv 2) pa_nil))))
      (pss_cons (ps_set (i := 4) sc__law_draw.nd rfl (by first | exact Or.inl rfl | exact Or.inr rfl) (pe_ix (ix_seqK (K := K) rfl) (pv 2) (pv 3) (fun _ _ => rfl)))
      (pss_cons (ps_if (pt_cmpR op_ge (pv 4) pe_int (nomark _)) (pss_cons (ps_asg (pe_op op_fdivN (pv 4) (pv 1)) (pg_sub (pv 2) (pv 3) set_list))
      (pss_one (ps_ret (pe_op op_modN (pv 4) (pv 1))))) pss_nil)
      (pss_cons (ps_set (i := 5) sc__law_draw.nd rfl (by first | exact Or.inl rfl | exact Or.inr rfl) (pe_op op_modN (pe_op (op_addK (K := K) rfl) (pv 4) (pe_op op_mulA pe_int (pe_ix (ix_seqK (K := K) rfl) (pv 0) pe_int (fun _ _ => rfl)))) pe_int))
      (pss_cons (ps_set (i := 5) sc__law_draw.nd rfl (by first | exact Or.inl rfl | exact Or.inr rfl) (pe_op op_modN (pe_op op_pow (pv 5) pe_int) pe_int))
      (pss_one (ps_ret (pe_op op_modN (pe_op op_fdivN (pe_op op_modN (pe_op (op_addK (K := K) rfl) (pe_op op_mulA (pe_op op_fdivN (pv 5) pe_int) pe_int) (pv 5)) pe_int) pe_int) (pv 1))))))))))), ?_⟩
    -- numbers = draws[0]; draws[1] = draws[1] + 1
    refine ⟨_, rfl, .inl ⟨dr, _, 0, .ref nu, rfl, rfl, SqL.of g1, rfl, ?_⟩⟩
    refine ⟨_, rfl, .inl ⟨dr, _, 1, .int c, rfl, rfl, SqL.of g1, rfl, .inl ⟨c, 1, rfl, rfl, _, rfl, dr, _, 1, 1, rfl, rfl, g1, rfl, ?_⟩⟩⟩
    generalize hH1 : upd H dr (.lst ([V.ref nu, V.int c].set 1 (.int (c + 1)))) = H1
    have k1 : H1 dr = some (.lst [.ref nu, .int (c + 1)]) := by rw [← hH1]; exact upd_same
    have k2 : H1 nu = some (.lst (ms.map V.int)) := by rw [← hH1, upd_ne (Ne.symm hne)]; exact g2
    have kk : ∀ a o, a ≠ dr → a ≠ nu → H a = some o → H1 a = some o := fun a o w1 w2 z => by rw [← hH1, upd_ne w1]; exact z
    have dN : ∀ {H2 : Hp}, Same H1 H2 → Dv H2 (.ref nu) (dI ms) := fun s => .lst (s _ _ k2) (dvs_ints _)
    have dD : ∀ {H2 : Hp}, Same H1 H2 → Dv H2 (.ref dr) (.list [dI ms, .int (c + 1)]) := fun s => .lst (s _ _ k1) (.cons (dN s) (.cons (.int _) .nil))
    have vw : ∀ {H2 : Hp} {x3 x4 x5 : Option V} {ρ : Rho}, Same H1 H2 → ρ.length = 3 → (∀ (i : Nat) d, ρ[i]? = some (Sl.dat d) → ∃ v, [x3, x4, x5][i]? = some (some v) ∧ Dv H2 v d) → Vw H2 H2 [some (.ref dr), some (.int L), some (.ref nu), x3, x4, x5] (.dat (.list [dI ms, .int (c + 1)]) :: .dat (.int L) :: .dat (dI ms) :: ρ) := fun {H2 x3 x4 x5 ρ} s hl hd => ⟨.refl _, by simp [hl], fun i d z => by
      match i, z with
      | 0, z => cases z; exact ⟨_, rfl, dD s⟩
      | 1, z => cases z; exact ⟨_, rfl, .int _⟩
      | 2, z => cases z; exact ⟨_, rfl, dN s⟩
      | i + 3, z => exact hd i d z⟩
    have fin : ∀ {H2 : Hp} {ms' : List Int} (r : Int), 0 ≤ r → r < L → (∀ a o, a ≠ dr → a ≠ nu → H a = some o → H2 a = some o) → H2 dr = some (.lst [.ref nu, .int (c + 1)]) → H2 nu = some (.lst (ms'.map V.int)) → ms' ≠ [] → ms'.length ≤ 63 → Q (.int r) H2 := fun {H2 ms'} r r1 r2 z1 z2 z3 z4 z5 => by
      obtain ⟨h', m, i1, i2, i3⟩ := draw_end hne hh hsub hdis e z1 z2 z3 z4 z5
      exact q _ _ G H2 h' ⟨r, rfl, r1, r2⟩ m i1 i2 i3 (.int r)
    have same3 : ∀ {H2 : Hp}, Same H1 H2 → (∀ a o, a ≠ dr → a ≠ nu → H a = some o → H2 a = some o) ∧ H2 dr = some (.lst [.ref nu, .int (c + 1)]) ∧ H2 nu = some (.lst (ms.map V.int)) := fun s => ⟨fun a o w1 w2 z => s _ _ (kk a o w1 w2 z), s _ _ k1, s _ _ k2⟩
    -- at
    have e1 : ED (tOp (rI (fun _ j => j ≠ 0) fun i j => .int (i.fmod j)) (tOp (rIx K) (tVar 0) (tC (.int 1))) (tCB (rLenA K) (tCons (tVar 2) tNil))) [.dat (.list [dI ms, .int (c + 1)]), .dat (.int L), .dat (dI ms), .un, .un, .un] (.int ((c + 1).fmod ms.length)) :=
      ed_op (ed_op (ed_var rfl) ed_int (rd_ix rfl)) (ed_cb (ea_cons (ed_var rfl) ea_nil) rc_lenM) (rd_c (C := fun _ j => j ≠ 0) (f := fun i j => i.fmod j) (by show (ms.length : Int) ≠ 0; omega))
    have nodat : ∀ {xs : List (Option V)} {H2 : Hp} (i : Nat) d, ([.un, .un, .un] : Rho)[i]? = some (Sl.dat d) → ∃ v, xs[i]? = some (some v) ∧ Dv H2 v d := fun i d z => by
      match i, z with
      | 0, z => cases z
      | 1, z => cases z
      | 2, z => cases z
      | i + 3, z => simp at z
    refine e1 H1 H1 _ (vw (.refl _) rfl nodat) _ fun v3 _ H2 x2 hv => ?_
    cases hv
    obtain ⟨at1, at2⟩ := fmod_in (c + 1) (b := ms.length) (by omega)
    generalize (c + 1).fmod ms.length = at_ at at1 at2 ⊢
    -- cell
    have v2 : Vw H2 H2 [some (.ref dr), some (.int L), some (.ref nu), some (.int at_), none, none] [.dat (.list [dI ms, .int (c + 1)]), .dat (.int L), .dat (dI ms), .dat (.int at_), .un, .un] := vw x2.h rfl fun i d z => by
      match i, z with
      | 0, z => cases z; exact ⟨_, rfl, .int _⟩
      | 1, z => cases z
      | 2, z => cases z
      | i + 3, z => simp at z
    have e2 : ED (tOp (rIx K) (tVar 2) (tVar 3)) [.dat (.list [dI ms, .int (c + 1)]), .dat (.int L), .dat (dI ms), .dat (.int at_), .un, .un] (.int (gI ms at_)) := ed_op (ed_var rfl) (ed_var rfl) (rd_ixM (by omega) (by omega))
    refine e2 H2 H2 _ v2 _ fun v4 _ H3 x3 hv => ?_
    cases hv
    generalize gI ms at_ = cell
    have s3 : Same H1 H3 := x2.h.trans x3.h
    have v3 : Vw H3 H3 [some (.ref dr), some (.int L), some (.ref nu), some (.int at_), some (.int cell), none] [.dat (.list [dI ms, .int (c + 1)]), .dat (.int L), .dat (dI ms), .dat (.int at_), .dat (.int cell), .un] := vw s3 rfl fun i d z => by
      match i, z with
      | 0, z => cases z; exact ⟨_, rfl, .int _⟩
      | 1, z => cases z; exact ⟨_, rfl, .int _⟩
      | 2, z => cases z
      | i + 3, z => simp at z
    -- if cell >= 10 ** 18
    refine ⟨_, rfl, cell, 1000000000000000000, rfl, rfl, _, rfl, ?_⟩
    obtain ⟨f1, f2⟩ := fmod_in cell (b := L) (by omega)
    obtain ⟨p1, p2, p3⟩ := same3 s3
    refine ite2 (fun _ => ?_) (fun _ => ?_)
    · -- numbers[at] = cell // limit; return cell % limit
      refine ⟨_, rfl, _, rfl, cell, L, rfl, rfl, ⟨by omega, by omega⟩, _, rfl, _, rfl, nu, _, at_, at_.toNat, rfl, rfl, p3, ?_, ?_⟩
      · unfold ixN; rw [List.length_map, if_pos at1, if_pos (by omega)]
      · have es : (ms.map V.int).set at_.toNat (V.int (cell.fdiv L)) = (ms.set at_.toNat (cell.fdiv L)).map V.int := by rw [List.map_set]
        refine ⟨_, rfl, _, rfl, cell, L, rfl, rfl, by show L ≠ 0; omega, ?_⟩
        refine fin (ms' := ms.set at_.toNat (cell.fdiv L)) _ f1 f2 (fun a o w1 w2 z => ?_) ?_ ?_ ?_ (by rw [List.length_set]; exact hml)
        · rw [upd_ne w2]; exact p1 a o w1 w2 z
        · rw [upd_ne hne]; exact p2
        · rw [upd_same, es]
        · intro z; have := congrArg List.length z; rw [List.length_set] at this; simp at this; exact hms this
    · -- mixed
      have e3 : ED (tOp (rI (fun _ j => j ≠ 0) fun i j => .int (i.fmod j)) (tOp (rAddA K) (tVar 4) (tOp rMulA (tC (.int 104729)) (tOp (rIx K) (tVar 0) (tC (.int 1))))) (tC (.int 4294967291))) [.dat (.list [dI ms, .int (c + 1)]), .dat (.int L), .dat (dI ms), .dat (.int at_), .dat (.int cell), .un] (.int ((cell + 104729 * (c + 1)).fmod 4294967291)) :=
        ed_op (ed_op (ed_var rfl) (ed_op ed_int (ed_op (ed_var rfl) ed_int (rd_ix rfl)) (rd_mul (by omega))) rd_add) ed_int (rd_c (C := fun _ j => j ≠ 0) (f := fun i j => i.fmod j) (by show (4294967291 : Int) ≠ 0; decide))
      refine e3 H3 H3 _ v3 _ fun v5 _ H4 x4 hv => ?_
      cases hv
      obtain ⟨m1, m2⟩ := fmod_in (cell + 104729 * (c + 1)) (b := 4294967291) (by omega)
      generalize (cell + 104729 * (c + 1)).fmod 4294967291 = m at m1 m2 ⊢
      refine ⟨_, rfl, m, 5, rfl, rfl, ⟨by decide, by decide, by omega⟩, _, 4294967279, rfl, rfl, by show (4294967279 : Int) ≠ 0; decide, ?_⟩
      obtain ⟨n1, n2⟩ := fmod_in (m ^ (5 : Int).toNat) (b := 4294967279) (by omega)
      have s4 : Same H1 H4 := s3.trans x4.h
      obtain ⟨q1, q2, q3⟩ := same3 s4
      obtain ⟨d1, d2⟩ := fdiv_in (b := 64) n1 (by omega)
      refine ⟨_, rfl, _, 64, rfl, rfl, ⟨by decide, by decide⟩, ?_⟩
      refine .inl ⟨_, 69621, rfl, rfl, .inl ⟨by omega, by omega⟩, _, rfl, .inl ⟨_, _, rfl, rfl, _, 4294967231, rfl, rfl, by show (4294967231 : Int) ≠ 0; decide, ?_⟩⟩
      refine ⟨_, 8, rfl, rfl, ⟨by decide, by decide⟩, ?_⟩
      refine ⟨_, rfl, _, L, rfl, rfl, by show L ≠ 0; omega, ?_⟩
      obtain ⟨o1, o2⟩ := fmod_in (Int.fdiv (Int.fmod (Int.fdiv (Int.fmod (m ^ (5 : Int).toNat) 4294967279) 64 * 69621 + Int.fmod (m ^ (5 : Int).toNat) 4294967279) 4294967231) 8) (b := L) (by omega)
      exact fin (ms' := ms) _ o1 o2 q1 q2 q3 hms hml

theorem ex_draw {E : XK} {ρ : Rho} {v0 : V} {h0 : Hp} {te : TE} {L : Int} {i : Nat} (q : ρ[i]? = some (Sl.prv (DrawR v0 h0))) (h : ED te ρ (.int L)) (h1 : 1 ≤ L) (h2 : L < 1073741824) : EX (tCall (PrD rel__law_draw) [] E (tCons (tVar i) (tCons te tNil))) ρ (fun d => ∃ r, d = .int r ∧ 0 ≤ r ∧ r < L) :=
  ex_call (PA := (· = [PyData.int L])) q (exa_ea (ea_cons h ea_nil)) (by rintro _ rfl; exact ⟨_, ⟨_, rfl, ⟨h1, h2⟩, rfl⟩, fun d z => z⟩)
theorem isx {K : PySem.W.Frag} {D a : Addr} {j : Nat} {Cs : List Addr} {R : Addr} (hE : ErrK K Cs R D j) {σ : St} {H : Hp} {i : Nat} {C : Addr} {Q : VK} (hs : σ[0]? = some (some (.ref a))) (hH : H a = some (ExO a D)) (hC : Cs[i]? = some C) (q : Q (.bl (decide (i = j))) H) :
    (tCB (rIsX K) (tCons (tVar 0) (tCons (tC (.ref C)) tNil))) σ H Q := ⟨.ref a, hs, a, D, .ref C, .ref C, _, rfl, hH, hE.x, .own C, hE.k i C hC, q⟩
theorem sc__law_error : FnScope ["caught", "kinds"] ["caught"] (defScope s__law_error) := ⟨rfl, rfl, rfl, by decide +kernel, rfl, by decide +kernel, by decide +kernel⟩
theorem ok__law_error (T : TX K mg) : FnOk P w K mg base CX0 1 T.a__law_error T.d__law_error ["caught"] (sp_err T.Es) := by
  refine T.F__law_error.ok sc__law_error (fun vs H Q E h => ?_) (fun cdv A outer s H vs Q E hr h => ?_)
  · obtain ⟨a, D, x, rfl, _⟩ := h
    rfl
  · obtain ⟨a, D, x, rfl, hD, hm, q⟩ := h
    refine ⟨_, (pss_cons (ps_set (i := 1) sc__law_error.nd rfl (by first | exact Or.inl rfl | exact Or.inr rfl) (pe_lst (pa_cons (pe_callB (cb_isXK (K := K) rfl) (by rfl) T.z_isinstance (by decide +kernel) (pa_cons (pv 0) (pa_cons (pe_glob (v := .ref T.C_BadRow) rfl T.g_BadRow rfl) pa_nil))) (pa_cons (pe_callB (cb_isXK (K := K) rfl) (by rfl) T.z_isinstance (by decide +kernel) (pa_cons (pv 0) (pa_cons (pe_glob (v := .ref T.C_BadCycles) rfl T.g_BadCycles rfl) pa_nil))) (pa_cons (pe_callB (cb_isXK (K := K) rfl) (by rfl) T.z_isinstance (by decide +kernel) (pa_cons (pv 0) (pa_cons (pe_glob (v := .ref T.C_BadRest) rfl T.g_BadRest rfl) pa_nil))) pa_nil)))))
      (pss_cons (ps_set (i := 1) sc__law_error.nd rfl (by first | exact Or.inl rfl | exact Or.inr rfl) (pe_op (op_addK (K := K) rfl) (pv 1) (pe_lst (pa_cons (pe_callB (cb_isXK (K := K) rfl) (by rfl) T.z_isinstance (by decide +kernel) (pa_cons (pv 0) (pa_cons (pe_glob (v := .ref T.C_BadNumber) rfl T.g_BadNumber rfl) pa_nil))) (pa_cons (pe_callB (cb_isXK (K := K) rfl) (by rfl) T.z_isinstance (by decide +kernel) (pa_cons (pv 0) (pa_cons (pe_glob (v := .ref T.C_BadText) rfl T.g_BadText rfl) pa_nil))) (pa_cons (pe_callB (cb_isXK (K := K) rfl) (by rfl) T.z_isinstance (by decide +kernel) (pa_cons (pv 0) (pa_cons (pe_glob (v := .ref T.C_NotFound) rfl T.g_NotFound rfl) pa_nil))) pa_nil))))))
      (pss_cons (ps_if (PW.pt (pw_or (pt_cmpR (op_neK (K := K) rfl hr.units) (pe_bmK (K := K) rfl PySem.F.plainAttrs_list PySem.F.slot_list_count PySem.F.type_list_count (mt_countK (K := K) rfl (u65 hr)) (pv 1) (pa_cons pe_bl pa_nil)) pe_int (nomark _)) (pw_or (pt_not (pt_val (pe_callB (cb_isXK (K := K) rfl) (by rfl) T.z_isinstance (by decide +kernel) (pa_cons (pv 0) (pa_cons (pe_glob (v := .ref T.C_RainError) rfl T.g_RainError rfl) pa_nil))))) (pw_or1 (pt_not (pt_val (pe_callB (cb_isXK (K := K) rfl) (by rfl) T.z_isinstance (by decide +kernel) (pa_cons (pv 0) (pa_cons (pe_bltn (v := .ty "ValueError") (by rfl) T.z_ValueError (by decide +kernel) rfl) pa_nil))))))))) (pss_one (ps_ret pe_str)) pss_nil)
      (pss_one (ps_ret (pe_ix (ix_seqK (K := K) rfl) (pe_lst (pa_cons pe_str (pa_cons pe_str (pa_cons pe_str (pa_cons pe_str (pa_cons pe_str (pa_cons pe_str pa_nil))))))) (pe_bmK (K := K) rfl PySem.F.plainAttrs_list PySem.F.slot_list_index PySem.F.type_list_index (mt_indexK (K := K) rfl (u65 hr)) (pv 1) (pa_cons pe_bl pa_nil)) (fun _ _ => rfl))))))), ?_⟩
    obtain ⟨j, hj, hx, hE⟩ : ∃ j : Nat, j < 6 ∧ (["row", "cycles", "rest", "number", "text", "none"] : List Str)[j]? = some x ∧ ErrK K [T.C_BadRow, T.C_BadCycles, T.C_BadRest, T.C_BadNumber, T.C_BadText, T.C_NotFound] T.C_RainError D j := by
      simp only [TX.Es, List.mem_cons, Prod.mk.injEq, List.not_mem_nil, or_false] at hm
      rcases hm with ⟨rfl, rfl⟩ | ⟨rfl, rfl⟩ | ⟨rfl, rfl⟩ | ⟨rfl, rfl⟩ | ⟨rfl, rfl⟩ | ⟨rfl, rfl⟩
      · exact ⟨0, by decide, rfl, T.e6_BadRow⟩
      · exact ⟨1, by decide, rfl, T.e6_BadCycles⟩
      · exact ⟨2, by decide, rfl, T.e6_BadRest⟩
      · exact ⟨3, by decide, rfl, T.e6_BadNumber⟩
      · exact ⟨4, by decide, rfl, T.e6_BadText⟩
      · exact ⟨5, by decide, rfl, T.e6_NotFound⟩
    refine isx hE (i := 0) rfl hD rfl (isx hE (i := 1) rfl hD rfl (isx hE (i := 2) rfl hD rfl ⟨size_of (by simp), fun p hp => ?_⟩))
    have hap : a ≠ p := ne_of_none hD hp
    have hD1 : upd H p (.lst [.bl (decide (0 = j)), .bl (decide (1 = j)), .bl (decide (2 = j))]) a = some (ExO a D) := by rw [upd_ne hap]; exact hD
    refine ⟨.ref p, rfl, ?_⟩
    refine isx hE (i := 3) rfl hD1 rfl (isx hE (i := 4) rfl hD1 rfl (isx hE (i := 5) rfl hD1 rfl ⟨size_of (by simp), fun p2 hp2 => ?_⟩))
    have hap2 : a ≠ p2 := ne_of_none hD1 hp2
    have hpp : p ≠ p2 := ne_of_none (upd_same (H := H)) hp2
    refine .inr (.inl ⟨p, p2, _, _, rfl, rfl, by rw [upd_ne hpp]; exact upd_same, upd_same, size_of (by simp), fun p3 hp3 => ?_⟩)
    have s3 : Same H (upd (upd (upd H p (.lst [.bl (decide (0 = j)), .bl (decide (1 = j)), .bl (decide (2 = j))])) p2 (.lst [.bl (decide (3 = j)), .bl (decide (4 = j)), .bl (decide (5 = j))])) p3 (.lst ([.bl (decide (0 = j)), .bl (decide (1 = j)), .bl (decide (2 = j))] ++ [.bl (decide (3 = j)), .bl (decide (4 = j)), .bl (decide (5 = j))]))) := ((same_new hp).trans (same_new hp2)).trans (same_new hp3)
    have hl3 : (upd (upd (upd H p (.lst [.bl (decide (0 = j)), .bl (decide (1 = j)), .bl (decide (2 = j))])) p2 (.lst [.bl (decide (3 = j)), .bl (decide (4 = j)), .bl (decide (5 = j))])) p3 (.lst ([.bl (decide (0 = j)), .bl (decide (1 = j)), .bl (decide (2 = j))] ++ [.bl (decide (3 = j)), .bl (decide (4 = j)), .bl (decide (5 = j))]))) p3 = some (.lst ([.bl (decide (0 = j)), .bl (decide (1 = j)), .bl (decide (2 = j))] ++ [.bl (decide (3 = j)), .bl (decide (4 = j)), .bl (decide (5 = j))])) := upd_same
    generalize upd (upd (upd H p (.lst [.bl (decide (0 = j)), .bl (decide (1 = j)), .bl (decide (2 = j))])) p2 (.lst [.bl (decide (3 = j)), .bl (decide (4 = j)), .bl (decide (5 = j))])) p3 (.lst ([.bl (decide (0 = j)), .bl (decide (1 = j)), .bl (decide (2 = j))] ++ [.bl (decide (3 = j)), .bl (decide (4 = j)), .bl (decide (5 = j))])) = H3 at s3 hl3 ⊢
    have hl3 : H3 p3 = some (.lst ([decide (0 = j), decide (1 = j), decide (2 = j), decide (3 = j), decide (4 = j), decide (5 = j)].map V.bl)) := hl3
    have hD3 := s3 _ _ hD
    have hdb : ∀ bs : List Bool, Dvs H3 (bs.map V.bl) (bs.map PyData.bool) := fun bs => by
      induction bs with
      | nil => exact .nil
      | cons b r ih => exact .cons (.bl b) ih
    have vw : Vw H3 H3 [some (.ref a), some (.ref p3)] [.un, .dat (.list ([decide (0 = j), decide (1 = j), decide (2 = j), decide (3 = j), decide (4 = j), decide (5 = j)].map PyData.bool))] := ⟨.refl _, rfl, fun i d z => by
      match i, z with
      | 0, z => cases z
      | 1, z => cases z; exact ⟨_, rfl, .lst hl3 (hdb _)⟩
      | n + 2, z => cases z⟩
    refine et_is (b := false) (et_test (ed_op (ed_countB (ed_var rfl) ed_bl) ed_int rd_neI)) ?_ H3 H3 _ vw _ fun H4 s4 => iteF ?_
    · match j, hj with
      | 0, _ => rfl
      | 1, _ => rfl
      | 2, _ => rfl
      | 3, _ => rfl
      | 4, _ => rfl
      | 5, _ => rfl
    have hD4 := s4 _ _ hD3
    refine ⟨.ref a, rfl, a, D, .ref T.C_RainError, .ref T.C_RainError, true, rfl, hD4, hE.x, .own _, hE.r, true, rfl, iteF ?_⟩
    refine ⟨.ref a, rfl, a, D, .ty "ValueError", .type "ValueError", true, rfl, hD4, hE.x, .ty _, hE.v, true, rfl, iteF ?_⟩
    have vw4 := vw.more s4
    unfold tNext
    dsimp only
    unfold tRet
    dsimp only
    refine ed_is (d1 := .str x) (ed_op (ed_lst (ds := (["row", "cycles", "rest", "number", "text", "none"] : List Str).map PyData.str) ?_ (by decide)) (ed_indexB (xs := [decide (0 = j), decide (1 = j), decide (2 = j), decide (3 = j), decide (4 = j), decide (5 = j)]) (y := true) (ed_var (i := 1) rfl) ed_bl ?_) (rd_ixM (f := PyData.str) ?_ ?_)) ?_ H3 H4 _ vw4 _ fun v G5 H5 x5 hv => ?_
    · exact ea_cons ed_str (ea_cons ed_str (ea_cons ed_str (ea_cons ed_str (ea_cons ed_str (ea_cons ed_str ea_nil)))))
    · match j, hj with
      | 0, _ => simp
      | 1, _ => simp
      | 2, _ => simp
      | 3, _ => simp
      | 4, _ => simp
      | 5, _ => simp
    · omega
    · match j, hj with
      | 0, _ => decide
      | 1, _ => decide
      | 2, _ => decide
      | 3, _ => decide
      | 4, _ => decide
      | 5, _ => decide
    · match j, hj, hx with
      | 0, _, hx => cases hx; rfl
      | 1, _, hx => cases hx; rfl
      | 2, _, hx => cases hx; rfl
      | 3, _, hx => cases hx; rfl
      | 4, _, hx => cases hx; rfl
      | 5, _, hx => cases hx; rfl
    · cases hv
      exact q _ ((s3.trans s4).trans x5.h)
def rel__law_written : List PyData → Rs → Prop := fun ds r => (∃ ns, ds = [.int 0, dI ns] ∧ RowOk ns ∧ r = .ok (.str (fmtR ns))) ∨ (∃ cs, ds = [.int 1, dC cs] ∧ CyOk cs ∧ r = .ok (.str (fmtC cs)))
theorem sc__law_written : FnScope ["kind", "thing", "value", "low", "high"] ["kind", "thing"] (defScope s__law_written) := ⟨rfl, rfl, rfl, by decide +kernel, rfl, by decide +kernel, by decide +kernel⟩
theorem ok__law_written (T : TX K mg) : FnOk P w K mg base CX0 1 T.a__law_written T.d__law_written ["kind", "thing"] (PrS rel__law_written) := by
  refine T.F__law_written.ok sc__law_written (fun vs H Q E h => prs_len h (fun ds r z => by rcases z with ⟨_, rfl, _⟩ | ⟨_, rfl, _⟩ <;> rfl)) (fun cdv A outer s H vs Q E hr h => ?_)
  obtain ⟨G, ds, r, e, hv, hrel, wsh⟩ := h
  refine ⟨_, (pss_cons (ps_if (pt_cmpR (op_eqK (K := K) rfl hr.units) (pv 0) pe_int (nomark _)) (pss_one (ps_ret (pe_joinK (K := K) rfl pe_str (pe_lc (own := [("value", 2)]) (g := gName 2) (tt := tYes) (by rfl) sc__law_written.nd (pi_listK (K := K) rfl (pv 1)) (blkOk_by (N := ["kind", "thing", "value", "low", "high"]) (sc := defScope s__law_written) (own := [("value", 2)]) (by decide +kernel)) (fun _ _ _ _ _ => pg_name (i := 2) sc__law_written.nd rfl (Or.inl rfl)) (fun _ _ _ _ _ => pts_nil) (fun _ _ _ _ _ => (pe_callTy cb_strI (by rfl) T.z_str (by decide +kernel) (pa_cons (pv 2) pa_nil))))))) pss_nil)
      (pss_one (ps_ret (pe_joinK (K := K) rfl pe_str (pe_lc (own := [("low", 3), ("high", 4)]) (g := gTup K 2 (gCons (gName 3) (gCons (gName 4) gNil))) (tt := tYes) (by rfl) sc__law_written.nd (pi_listK (K := K) rfl (pv 1)) (blkOk_by (N := ["kind", "thing", "value", "low", "high"]) (sc := defScope s__law_written) (own := [("low", 3), ("high", 4)]) (by decide +kernel)) (fun _ _ _ _ _ => pg_tupK (K := K) rfl rfl (pgs_cons (pg_name (i := 3) sc__law_written.nd rfl (Or.inl rfl)) (pgs_cons (pg_name (i := 4) sc__law_written.nd rfl (Or.inl rfl)) pgs_nil))) (fun _ _ _ _ _ => pts_nil) (fun _ _ _ _ _ => (pe_op (op_addK (K := K) rfl) (pe_op (op_addK (K := K) rfl) (pe_callTy cb_strI (by rfl) T.z_str (by decide +kernel) (pa_cons (pv 3) pa_nil)) pe_str) (pe_callTy cb_strI (by rfl) T.z_str (by decide +kernel) (pa_cons (pv 4) pa_nil))))))))), body_ok e hv wsh ?_⟩
  rcases hrel with ⟨ns, rfl, hok, rfl⟩ | ⟨cs, rfl, hc, rfl⟩
  · have hbd := hok.2.2
    have hlen := hok.2.1
    show SO _ _ [.dat (.int 0), .dat (dI ns), .un, .un, .un] _
    refine so_seq (so_if (b := true) (et_is (et_test (ed_op (ed_var rfl) ed_int rd_eqI)) (by decide)) (fun _ => so_ret (d := .str (fmtR ns)) (ed_join (ys := ns.map txN) ed_str (ed_lcL (xs := ns) (en := PyData.int) (f := fun _ => true) (e := fun n => .str (txN n)) (ed_var rfl) (by omega) rfl (fun _ _ => et_yes) (fun n hn _ => ed_cb (ea_cons (ed_var rfl) ea_nil) (rc_strI (numLog (hbd n hn).1 (hbd n hn).2))) (by rw [List.filter_eq_self.mpr (fun _ _ => rfl), List.map_map]; rfl)) (Nat.le_trans (row_sum hbd hlen) (by omega))) rfl) (fun z => by cases z))
  · have hl := hc.1
    have hbd : ∀ p ∈ cs, (-99 ≤ p.1 ∧ p.1 ≤ 99) ∧ (-99 ≤ p.2 ∧ p.2 ≤ 99) := fun p hp => by have := hc.2.1 p hp; omega
    show SO _ _ [.dat (.int 1), .dat (dC cs), .un, .un, .un] _
    refine so_seq (so_if (b := false) (et_is (et_test (ed_op (ed_var rfl) ed_int rd_eqI)) (by decide)) (fun z => by cases z) (fun _ => so_next ?_))
    refine so_ret (d := .str (fmtC cs)) (ed_join (ys := cs.map fmtP) ed_str (ed_is (EN.ed (ds := (cs.filter fun _ => true).map fun p => .str (fmtP p)) ?_) ?_) ?_) rfl
    · refine en_lcC (xs := cs) (ed_var ?_) (by omega) rfl (fun _ _ => et_yes) ?_
      · rfl
      intro p hp _
      have h1 := hbd p hp
      have l1 : (txN p.1).length ≤ 3 := numLen h1.1.1 h1.1.2
      have l2 : (txN p.2).length ≤ 3 := numLen h1.2.1 h1.2.2
      have e1 : ((".." : Str)).length = 2 := by decide +kernel
      refine ed_is (ed_op (ed_op (ed_cb (ea_cons (ed_var rfl) ea_nil) (rc_strI (numLog h1.1.1 h1.1.2))) ed_str (rd_addS (by omega))) (ed_cb (ea_cons (ed_var rfl) ea_nil) (rc_strI (numLog h1.2.1 h1.2.2))) (rd_addS (by rw [Str.length_append]; omega))) ?_
      rw [fmtP_join, joinS2]
    · rw [List.filter_eq_self.mpr (fun _ _ => rfl), List.map_map]; rfl
    · have e1 : ((" " : Str)).length = 1 := by decide +kernel
      rw [List.length_map, e1]
      have := fmt_sum cs hbd
      omega
def rel_is_row : List PyData → Rs → Prop := Rl1 (fun (d : PyData) => [d]) (fun d r => r = .ok (.bool (isRowD d)))
theorem cl_is_row {d : PyData} : rel_is_row [d] (.ok (.bool (isRowD d))) := ⟨d, rfl, rfl⟩
theorem sc_is_row : FnScope ["value", "height"] ["value"] (defScope s_is_row) := ⟨rfl, rfl, rfl, by decide +kernel, rfl, by decide +kernel, by decide +kernel⟩
theorem ok_is_row (T : TX K mg) : FnOk P w K mg base CX0 2 T.a_is_row T.d_is_row ["value"] (PrS rel_is_row) := by
  refine T.F_is_row.ok sc_is_row (fun vs H Q E h => prs_len h (rl1_len (fun _ => rfl))) (fun cdv A outer s H vs Q E hr h => ?_)
  obtain ⟨G, ds, r, e, hv, hrel, wsh⟩ := h
  refine ⟨_, (pss_cons (ps_if (PW.pt (pw_or (pt_not (pt_val (pe_callB (cb_isiK (K := K) rfl) (by rfl) T.z_isinstance (by decide +kernel) (pa_cons (pv 0) (pa_cons (pe_bltn (v := .ty "list") (by rfl) T.z_list (by decide +kernel) rfl) pa_nil))))) (pw_or1 (pt_not (pt_chain op_le op_le pe_int (pe_callB (cb_lenK (K := K) rfl) (by rfl) T.z_len (by decide +kernel) (pa_cons (pv 0) pa_nil)) (pe_glob (v := .int 24) rfl T.c_MOST_VALUES ⟨_, rfl⟩)))))) (pss_one (ps_ret pe_bl)) pss_nil)
      (pss_one (ps_ret (pe_callB (cb_allK (K := K) rfl rfl) (by rfl) T.z_all (by decide +kernel) (pa_cons (pe_lc (own := [("height", 1)]) (g := gName 1) (tt := tYes) (by rfl) sc_is_row.nd (pi_listK (K := K) rfl (pv 0)) (blkOk_by (N := ["value", "height"]) (sc := defScope s_is_row) (own := [("height", 1)]) (by decide +kernel)) (fun _ _ _ _ _ => pg_name (i := 1) sc_is_row.nd rfl (Or.inl rfl)) (fun _ _ _ _ _ => pts_nil) (fun _ _ _ _ _ => (pe_call (ok_is_int T) (hr.mono (by decide)) rfl T.g_is_int T.F_is_int.kp T.b_is_int .nil pass0 (pa_cons (pv 1) (pa_cons (pe_un un_neg (pe_glob (v := .int 99) rfl T.c_MOST_VALUE ⟨_, rfl⟩)) (pa_cons (pe_glob (v := .int 99) rfl T.c_MOST_VALUE ⟨_, rfl⟩) pa_nil)))))) pa_nil))))), body_ok e hv wsh ?_⟩
  obtain ⟨d, rfl, rfl⟩ := hrel
  by_cases hl : ∃ ds, d = .list ds
  case neg =>
    have h2 : kitB (tyn d) "list" = some false := by
      cases d with
      | int i => exact kb_int_list
      | bool b => exact kb_bool_list
      | none => exact kb_NoneType_list
      | str x => exact kb_str_list
      | tuple x => exact kb_tuple_list
      | dict x => exact kb_dict_list
      | list ds => exact absurd ⟨_, rfl⟩ hl
    have h3 : isRowD d = false := by
      cases d with
      | list ds => exact absurd ⟨_, rfl⟩ hl
      | _ => rfl
    rw [h3]
    exact so_seq (so_if (b := true) (et_is (et_or (a := true) (b := false) (et_not (a := false) (et_B (ed_isi (d := d) (ed_var rfl) h2))) (fun z => Bool.noConfusion z)) rfl) (fun _ => so_ret ed_bl rfl) (fun z => Bool.noConfusion z))
  case pos =>
    obtain ⟨ds, rfl⟩ := hl
    refine so_seq (so_if (b := !(decide (1 ≤ ds.length) && decide (ds.length ≤ 24))) ?_ (fun h => ?_) (fun h => ?_))
    · refine et_is (et_or (a := false) (et_not (a := true) (et_B (ed_isi (d := .list ds) (ed_var rfl) kb_list_list))) (fun _ => et_not (et_test (ed_chain ed_int (ed_cb (ea_cons (ed_var rfl) ea_nil) rc_len) rd_b ed_int rd_b)))) ?_
      simp only [Bool.false_or]
      congr 2 <;> (rw [decide_eq_decide]; omega)
    · refine so_ret ed_bl ?_
      have : isRowD (.list ds) = false := by
        simp only [isRowD]
        cases e : (decide (1 ≤ ds.length) && decide (ds.length ≤ 24)) with
        | true => rw [e] at h; cases h
        | false => rfl
      rw [this]; rfl
    · refine so_next ?_
      have h' : (decide (1 ≤ ds.length) && decide (ds.length ≤ 24)) = true := by
        cases e : (decide (1 ≤ ds.length) && decide (ds.length ≤ 24)) with
        | true => rfl
        | false => rw [e] at h; cases h
      have hl := h'
      simp only [Bool.and_eq_true, decide_eq_true_eq] at hl
      refine so_ret (d := .bool (isRowD (.list ds))) (ed_is (ed_cb (ea_cons (ed_is (EN.ed (en_lcL (xs := ds) (en := id) (f := fun _ => true) (e := fun d => .bool (isIntD (-99) 99 d)) (ed_is (ed_var rfl) (by rw [List.map_id])) (by omega) rfl (fun _ _ => et_yes) ?_)) (d1 := .list ((ds.map (isIntD (-99) 99)).map PyData.bool)) ?_) ea_nil) rc_all) ?_) rfl
      · intro x hx _
        exact (ed_call (ea_cons (ed_var rfl) (ea_cons (ed_un ed_int fun _ => .int _) (ea_cons ed_int ea_nil))) cl_is_int)
      · rw [List.filter_eq_self.mpr (fun _ _ => rfl), List.map_map]; rfl
      · simp only [isRowD, h', Bool.true_and, List.all_map]; rfl
local macro_rules | `(tactic| walk_at "rel") => `(tactic| with_reducible exact cl_is_row)
def rel_is_cycle : List PyData → Rs → Prop := Rl1 (fun (d : PyData) => [d]) (fun d r => r = .ok (.bool (isCyD d)))
theorem cl_is_cycle {d : PyData} : rel_is_cycle [d] (.ok (.bool (isCyD d))) := ⟨d, rfl, rfl⟩
theorem sc_is_cycle : FnScope ["value", "part"] ["value"] (defScope s_is_cycle) := ⟨rfl, rfl, rfl, by decide +kernel, rfl, by decide +kernel, by decide +kernel⟩
theorem ok_is_cycle (T : TX K mg) : FnOk P w K mg base CX0 2 T.a_is_cycle T.d_is_cycle ["value"] (PrS rel_is_cycle) := by
  refine T.F_is_cycle.ok sc_is_cycle (fun vs H Q E h => prs_len h (rl1_len (fun _ => rfl))) (fun cdv A outer s H vs Q E hr h => ?_)
  obtain ⟨G, ds, r, e, hv, hrel, wsh⟩ := h
  refine ⟨_, (pss_cons (ps_if (PW.pt (pw_or (pt_not (pt_val (pe_callB (cb_isiK (K := K) rfl) (by rfl) T.z_isinstance (by decide +kernel) (pa_cons (pv 0) (pa_cons (pe_bltn (v := .ty "tuple") (by rfl) T.z_tuple (by decide +kernel) rfl) pa_nil))))) (pw_or1 (pt_cmpR (op_neK (K := K) rfl hr.units) (pe_callB (cb_lenK (K := K) rfl) (by rfl) T.z_len (by decide +kernel) (pa_cons (pv 0) pa_nil)) pe_int (nomark _))))) (pss_one (ps_ret pe_bl)) pss_nil)
      (pss_cons (ps_if (pt_not (pt_val (pe_callB (cb_allK (K := K) rfl rfl) (by rfl) T.z_all (by decide +kernel) (pa_cons (pe_lc (own := [("part", 1)]) (g := gName 1) (tt := tYes) (by rfl) sc_is_cycle.nd (pi_tupK (K := K) rfl (pv 0)) (blkOk_by (N := ["value", "part"]) (sc := defScope s_is_cycle) (own := [("part", 1)]) (by decide +kernel)) (fun _ _ _ _ _ => pg_name (i := 1) sc_is_cycle.nd rfl (Or.inl rfl)) (fun _ _ _ _ _ => pts_nil) (fun _ _ _ _ _ => (pe_call (ok_is_int T) (hr.mono (by decide)) rfl T.g_is_int T.F_is_int.kp T.b_is_int .nil pass0 (pa_cons (pv 1) (pa_cons (pe_un un_neg (pe_glob (v := .int 99) rfl T.c_MOST_VALUE ⟨_, rfl⟩)) (pa_cons (pe_glob (v := .int 99) rfl T.c_MOST_VALUE ⟨_, rfl⟩) pa_nil)))))) pa_nil)))) (pss_one (ps_ret pe_bl)) pss_nil)
      (pss_one (ps_ret (pe_cmpR op_lt (pe_ix (ix_seqK (K := K) rfl) (pv 0) pe_int (fun _ _ => rfl)) (pe_ix (ix_seqK (K := K) rfl) (pv 0) pe_int (fun _ _ => rfl)) (nomark _)))))), body_ok e hv wsh ?_⟩
  obtain ⟨d, rfl, rfl⟩ := hrel
  by_cases hl : ∃ ds, d = .tuple ds
  case neg =>
    have h2 : kitB (tyn d) "tuple" = some false := by
      cases d with
      | int i => exact kb_int_tuple
      | bool b => exact kb_bool_tuple
      | none => exact kb_NoneType_tuple
      | str x => exact kb_str_tuple
      | list x => exact kb_list_tuple
      | dict x => exact kb_dict_tuple
      | tuple ds => exact absurd ⟨_, rfl⟩ hl
    have h3 : isCyD d = false := by
      cases d with
      | tuple ds => exact absurd ⟨_, rfl⟩ hl
      | _ => rfl
    rw [h3]
    exact so_seq (so_if (b := true) (et_is (et_or (a := true) (b := false) (et_not (a := false) (et_B (ed_isi (d := d) (ed_var rfl) h2))) (fun z => Bool.noConfusion z)) rfl) (fun _ => so_ret ed_bl rfl) (fun z => Bool.noConfusion z))
  case pos =>
    obtain ⟨ds, rfl⟩ := hl
    refine so_seq (so_if (b := !decide (ds.length = 2)) ?_ (fun h => ?_) (fun h => ?_))
    · refine et_is (et_or (a := false) (et_not (a := true) (et_B (ed_isi (d := .tuple ds) (ed_var rfl) kb_tuple_tuple))) (fun _ => et_test (ed_op (ed_cb (ea_cons (ed_var rfl) ea_nil) rc_lenT) ed_int rd_neI))) ?_
      simp only [Bool.false_or]
      congr 1
      rw [decide_eq_decide]; omega
    · refine so_ret ed_bl ?_
      have h : decide (ds.length = 2) = false := by simpa using h
      have : isCyD (.tuple ds) = false := by simp only [isCyD, h, Bool.false_and]
      rw [this]; rfl
    · refine so_next ?_
      have h : decide (ds.length = 2) = true := by simpa using h
      have h' := of_decide_eq_true h
      refine so_seq (so_if (b := !(ds.all (isIntD (-99) 99))) (et_not (et_B ?_)) (fun h2 => ?_) (fun h2 => ?_))
      · refine ed_is (ed_cb (ea_cons (ed_is (EN.ed (en_lcT (xs := ds) (en := id) (f := fun _ => true) (e := fun d => .bool (isIntD (-99) 99 d)) (ed_is (ed_var rfl) (by rw [List.map_id])) (by omega) rfl (fun _ _ => et_yes) ?_)) (d1 := .list ((ds.map (isIntD (-99) 99)).map PyData.bool)) ?_) ea_nil) rc_all) ?_
        · intro x hx _
          exact (ed_call (ea_cons (ed_var rfl) (ea_cons (ed_un ed_int fun _ => .int _) (ea_cons ed_int ea_nil))) cl_is_int)
        · rw [List.filter_eq_self.mpr (fun _ _ => rfl), List.map_map]; rfl
        · rw [List.all_map]; rfl
      · refine so_ret ed_bl ?_
        have h2 : ds.all (isIntD (-99) 99) = false := by simpa using h2
        have : isCyD (.tuple ds) = false := by simp only [isCyD, h2, Bool.false_and, Bool.and_false]
        rw [this]; rfl
      · refine so_next ?_
        have h2 : ds.all (isIntD (-99) 99) = true := by simpa using h2
        have e1 : isCyD (.tuple ds) = ltD ds := by simp only [isCyD, h, h2, Bool.true_and]
        rw [e1]
        rw [List.all_eq_true] at h2
        match ds, h', h2 with
        | [x, y], _, h2 =>
          obtain ⟨a, rfl, a1, a2⟩ := isIntD_some (h2 x (by simp))
          obtain ⟨b, rfl, b1, b2⟩ := isIntD_some (h2 y (by simp))
          exact so_ret (ed_op (ed_op (ed_var rfl) ed_int (rd_ixT rfl)) (ed_op (ed_var rfl) ed_int (rd_ixT rfl)) rd_b) rfl
local macro_rules | `(tactic| walk_at "rel") => `(tactic| with_reducible exact cl_is_cycle)
def rel__law_pick : List PyData → (PyData → Prop) → Prop := fun ds post => ∃ cs : List PyData, ds = [.list cs] ∧ (cs ≠ [] ∧ cs.length < 1000000) ∧ post = fun d => d ∈ cs
theorem sc__law_pick : FnScope ["draws", "choices"] ["draws", "choices"] (defScope s__law_pick) := ⟨rfl, rfl, rfl, by decide +kernel, rfl, by decide +kernel, by decide +kernel⟩
theorem ok__law_pick (T : TX K mg) : FnOk P w K mg base CX0 2 T.a__law_pick T.d__law_pick ["draws", "choices"] (PrD rel__law_pick) := by
  refine T.F__law_pick.ok sc__law_pick (fun vs H Q E h => prd_len h (n := 1) (fun ds p ⟨L, z, _⟩ => by rw [z]; rfl)) (fun cdv A outer s H vs Q E hr h => ?_)
  obtain ⟨G, h0, v, ws, ds, post, hvs, hI, hsub, hdis, e, hw, hrel, q⟩ := h
  refine ⟨_, (pss_one (ps_ret (pe_ix (ix_seqK (K := K) rfl) (pv 1) (pe_call (ok__law_draw T) (hr.mono (by decide)) rfl T.g__law_draw T.F__law_draw.kp T.b__law_draw .nil pass0 (pa_cons (pv 0) (pa_cons (pe_callB (cb_lenK (K := K) rfl) (by rfl) T.z_len (by decide +kernel) (pa_cons (pv 1) pa_nil)) pa_nil))) (fun _ _ => rfl)))), draw_ok (E := E) hvs hI hsub hdis e hw q ?_⟩
  obtain ⟨cs, rfl, ⟨hne, hlen⟩, rfl⟩ := hrel
  have hpos := List.length_pos_iff.mpr hne
  refine so_retE (P := fun d => d ∈ cs) (ex_op (P1 := (· = PyData.list cs)) (P2 := fun d => ∃ r, d = .int r ∧ 0 ≤ r ∧ r < cs.length) (ex_ed (ed_var rfl)) (fun _ _ => ex_call (PA := (· = [PyData.int cs.length])) rfl (exa_ea (ea_cons (ed_cb (ea_cons (ed_var rfl) ea_nil) rc_len) ea_nil)) ?_) ?_) (fun d hd => .inl ⟨_, d, rfl, hd⟩)
  · rintro _ rfl
    exact ⟨_, ⟨_, rfl, ⟨by omega, by omega⟩, rfl⟩, fun d z => z⟩
  · rintro _ _ rfl ⟨r, rfl, h1, h2⟩
    have hr : r.toNat < cs.length := by omega
    refine ⟨cs[r.toNat], List.getElem_mem hr, rd_ix ?_⟩
    unfold atI ixN
    rw [if_pos h1, if_pos h2]
    exact List.getElem?_eq_getElem hr

theorem ex_pickI {E : XK} {ρ : Rho} {v0 : V} {h0 : Hp} {te : TE} {ns : List Int} {i : Nat} (q : ρ[i]? = some (Sl.prv (DrawR v0 h0))) (h : ED te ρ (dI ns)) (h1 : ns ≠ []) (h2 : ns.length < 1000000) : EX (tCall (PrD rel__law_pick) [] E (tCons (tVar i) (tCons te tNil))) ρ (fun d => ∃ x, d = .int x ∧ x ∈ ns) :=
  ex_call (PA := (· = [dI ns])) q (exa_ea (ea_cons h ea_nil)) (by
    rintro _ rfl
    refine ⟨_, ⟨_, rfl, ⟨by simpa using h1, by rw [List.length_map]; exact h2⟩, rfl⟩, fun d z => ?_⟩
    obtain ⟨x, hx, e⟩ := List.mem_map.mp z
    exact ⟨x, e.symm, hx⟩)
theorem ex_pickX {E : XK} {ρ : Rho} {v0 : V} {h0 : Hp} {te : TE} {PC : List PyData → Prop} {i : Nat} (q : ρ[i]? = some (Sl.prv (DrawR v0 h0))) (h : EX te ρ (fun d => ∃ cs, d = .list cs ∧ PC cs)) (h1 : ∀ cs, PC cs → cs ≠ [] ∧ cs.length < 1000000) : EX (tCall (PrD rel__law_pick) [] E (tCons (tVar i) (tCons te tNil))) ρ (fun d => ∃ cs, PC cs ∧ d ∈ cs) :=
  ex_call q (exa_cons h (fun _ _ => exa_nil)) (by
    rintro _ ⟨_, _, rfl, ⟨cs, rfl, hc⟩, rfl⟩
    exact ⟨_, ⟨cs, rfl, h1 cs hc, rfl⟩, fun d z => ⟨cs, hc, z⟩⟩)
theorem ex_drawX {E : XK} {ρ : Rho} {v0 : V} {h0 : Hp} {te : TE} {B : Int → Prop} {i : Nat} (q : ρ[i]? = some (Sl.prv (DrawR v0 h0))) (h : EX te ρ (fun d => ∃ L, d = .int L ∧ B L)) (hB : ∀ L, B L → 1 ≤ L ∧ L < 1073741824) : EX (tCall (PrD rel__law_draw) [] E (tCons (tVar i) (tCons te tNil))) ρ (fun d => ∃ L r, B L ∧ d = .int r ∧ 0 ≤ r ∧ r < L) :=
  ex_call q (exa_cons h (fun _ _ => exa_nil)) (by
    rintro _ ⟨_, _, rfl, ⟨L, rfl, hL⟩, rfl⟩
    exact ⟨_, ⟨L, rfl, hB L hL, rfl⟩, fun d ⟨r, e, h1, h2⟩ => ⟨L, r, hL, e, h1, h2⟩⟩)
def CyIn (row : List Int) (M : Int) (cs : List (Int × Int)) : Prop := (cs.length : Int) ≤ M ∧ srtC cs = cs ∧ ∀ p ∈ cs, lmin row ≤ p.1 ∧ p.1 < p.2 ∧ p.2 ≤ lmax row
def rel__law_cycles : List PyData → (PyData → Prop) → Prop := fun ds post => ∃ (row : List Int) (M : Int), ds = [dI row, .int M] ∧ (row ≠ [] ∧ row.length ≤ 1000 ∧ (∀ x ∈ row, -99 ≤ x ∧ x ≤ 99) ∧ 0 ≤ M ∧ M ≤ 100) ∧ post = fun d => ∃ cs, d = dC cs ∧ CyIn row M cs
theorem ex_lcycles {ρ : Rho} {E : XK} {v : V} {h : Hp} {i : Nat} {ta tb : TE} {row : List Int} {M : Int} (q : ρ[i]? = some (Sl.prv (DrawR v h))) (h1 : ED ta ρ (dI row)) (h2 : ED tb ρ (.int M)) (hr : row ≠ []) (hl : row.length ≤ 1000) (hb : ∀ x ∈ row, -99 ≤ x ∧ x ≤ 99) (hM : 0 ≤ M) (hM2 : M ≤ 100) :
    EX (tCall (PrD rel__law_cycles) [] E (tCons (tVar i) (tCons ta (tCons tb tNil)))) ρ (fun d => ∃ cs, d = dC cs ∧ CyIn row M cs) :=
  ex_call (PA := (· = [dI row, .int M])) q (exa_ea (ea_cons h1 (ea_cons h2 ea_nil))) (by rintro _ rfl; exact ⟨_, ⟨_, _, rfl, ⟨hr, hl, hb, hM, hM2⟩, rfl⟩, fun d z => z⟩)
theorem sc__law_cycles : FnScope ["draws", "row", "most", "low", "high", "found", "k", "one", "other"] ["draws", "row", "most"] (defScope s__law_cycles) := ⟨rfl, rfl, rfl, by decide +kernel, rfl, by decide +kernel, by decide +kernel⟩
theorem ok__law_cycles (T : TX K mg) : FnOk P w K mg base CX0 2 T.a__law_cycles T.d__law_cycles ["draws", "row", "most"] (PrD rel__law_cycles) := by
  refine T.F__law_cycles.ok sc__law_cycles (fun vs H Q E h => prd_len h (n := 2) (fun ds p ⟨L, _, z, _⟩ => by rw [z]; rfl)) (fun cdv A outer s H vs Q E hr h => ?_)
  obtain ⟨G, h0, v, ws, ds, post, hvs, hI, hsub, hdis, e, hw, hrel, q⟩ := h
  refine ⟨_, (pss_cons (ps_par (i := 3) (j := 4) (by rfl) sc__law_cycles.nd rfl rfl (by decide) rfl rfl (pa_cons (pe_callB (cb_minK (K := K) rfl rfl) (by rfl) T.z_min (by decide +kernel) (pa_cons (pv 1) pa_nil)) (pa_cons (pe_callB (cb_maxK (K := K) rfl rfl) (by rfl) T.z_max (by decide +kernel) (pa_cons (pv 1) pa_nil)) pa_nil)) (by rfl))
      (pss_cons (ps_set (i := 5) sc__law_cycles.nd rfl (by first | exact Or.inl rfl | exact Or.inr rfl) (pe_lst pa_nil))
      (pss_cons (ps_for PassesOwn.never rfl (pi_range1 (by rfl) T.z_range (pa_cons (pe_call (ok__law_draw T) (hr.mono (by decide)) rfl T.g__law_draw T.F__law_draw.kp T.b__law_draw .nil pass0 (pa_cons (pv 0) (pa_cons (pe_op (op_addK (K := K) rfl) (pv 2) pe_int) pa_nil))) pa_nil)) (pg_name (i := 6) sc__law_cycles.nd rfl (by first | exact Or.inl rfl | exact Or.inr rfl)) (pss_cons (ps_par (i := 7) (j := 8) (by rfl) sc__law_cycles.nd rfl rfl (by decide) rfl rfl (pa_cons (pe_op (op_addK (K := K) rfl) (pv 3) (pe_call (ok__law_draw T) (hr.mono (by decide)) rfl T.g__law_draw T.F__law_draw.kp T.b__law_draw .nil pass0 (pa_cons (pv 0) (pa_cons (pe_op (op_addK (K := K) rfl) (pe_op op_sub (pv 4) (pv 3)) pe_int) pa_nil)))) (pa_cons (pe_op (op_addK (K := K) rfl) (pv 3) (pe_call (ok__law_draw T) (hr.mono (by decide)) rfl T.g__law_draw T.F__law_draw.kp T.b__law_draw .nil pass0 (pa_cons (pv 0) (pa_cons (pe_op (op_addK (K := K) rfl) (pe_op op_sub (pv 4) (pv 3)) pe_int) pa_nil)))) pa_nil)) (by rfl))
      (pss_one (ps_if (pt_cmpR (op_neK (K := K) rfl hr.units) (pv 7) (pv 8) (nomark _)) (pss_one (ps_expr (pe_bmK (K := K) rfl PySem.F.plainAttrs_list PySem.F.slot_list_append PySem.F.type_list_append mt_append (pv 5) (pa_cons (pe_tup (pa_cons (pe_callB (cb_minK (K := K) rfl rfl) (by rfl) T.z_min (by decide +kernel) (pa_cons (pv 7) (pa_cons (pv 8) pa_nil))) (pa_cons (pe_callB (cb_maxK (K := K) rfl rfl) (by rfl) T.z_max (by decide +kernel) (pa_cons (pv 7) (pa_cons (pv 8) pa_nil))) pa_nil))) pa_nil)))) pss_nil))))
      (pss_one (ps_ret (pe_callB (cb_srtK (K := K) rfl) (by rfl) T.z_sorted (by decide +kernel) (pa_cons (pv 5) pa_nil))))))), draw_ok (E := E) hvs hI hsub hdis e hw q ?_⟩
  obtain ⟨row, M, rfl, ⟨hne, hrl, hbd, hM1, hM2⟩, rfl⟩ := hrel
  have hlo := hbd _ (lmin_mem hne)
  have hhi := hbd _ (lmax_mem hne)
  have hlh : lmin row ≤ lmax row := lmin_le (lmax_mem hne)
  show SO _ _ [.prv (DrawR v h0), .dat (dI row), .dat (.int M), .un, .un, .un, .un, .un, .un] _
  apply sq_par (a := .int (lmin row)) (b := .int (lmax row))
  · walk_at "ev"
  show SO _ _ [.prv (DrawR v h0), .dat (dI row), .dat (.int M), .dat (.int (lmin row)), .dat (.int (lmax row)), .un, .un, .un, .un] _
  apply sq_asgN (ds := [])
  · exact en_lst ea_nil (by simp)
  show SO _ _ [.prv (DrawR v h0), .dat (dI row), .dat (.int M), .dat (.int (lmin row)), .dat (.int (lmax row)), .own [], .un, .un, .un] _
  refine sq_forX (B := fun n => 0 ≤ n ∧ n ≤ M) ((ex_draw rfl (L := M + 1) (ed_op (ed_var rfl) ed_int rd_add) (by omega) (by omega)).imp fun d ⟨r, z, a, b⟩ => ⟨r, z, a, by omega⟩) (fun n hn => by omega)
    (fun n k ρ' => ∃ (cs : List (Int × Int)) (x y z : Sl), ρ' = [.prv (DrawR v h0), .dat (dI row), .dat (.int M), .dat (.int (lmin row)), .dat (.int (lmax row)), .own (cs.map cy), x, y, z] ∧ cs.length ≤ k ∧ ∀ p ∈ cs, lmin row ≤ p.1 ∧ p.1 < p.2 ∧ p.2 ≤ lmax row) ?_ ?_ ?_
  · intro n _
    exact ⟨[], _, _, _, rfl, by simp, fun p hp => nomatch hp⟩
  · rintro n hn k _ hk ⟨cs, x, y, z, rfl, hl, hb⟩
    refine ⟨_, ts_name, ?_⟩
    show SO _ _ [.prv (DrawR v h0), .dat (dI row), .dat (.int M), .dat (.int (lmin row)), .dat (.int (lmax row)), .own (cs.map cy), .dat (.int k), y, z] _
    have hv : EX (tOp (rAddA K) (tVar 3) (tCall (PrD rel__law_draw) [] E0 (tCons (tVar 0) (tCons (tOp (rAddA K) (tOp (rI0 fun i j => .int (i - j)) (tVar 4) (tVar 3)) (tC (.int 1))) tNil)))) [.prv (DrawR v h0), .dat (dI row), .dat (.int M), .dat (.int (lmin row)), .dat (.int (lmax row)), .own (cs.map cy), .dat (.int k), y, z] (fun d => ∃ x, d = .int x ∧ lmin row ≤ x ∧ x ≤ lmax row) := by
      refine ex_op (P1 := (· = PyData.int (lmin row))) (P2 := fun d => ∃ r, d = .int r ∧ 0 ≤ r ∧ r < lmax row - lmin row + 1) (ex_ed (ed_var rfl)) (fun _ _ => ex_draw rfl (ed_op (ed_op (ed_var rfl) (ed_var rfl) rd_i) ed_int rd_add) (by omega) (by omega)) ?_
      rintro _ _ rfl ⟨r, rfl, h1, h2⟩
      exact ⟨_, ⟨_, rfl, by omega, by omega⟩, rd_add⟩
    refine sq_parX (exa_cons hv (fun _ _ => exa_cons hv (fun _ _ => exa_nil))) ?_
    rintro _ ⟨_, _, rfl, ⟨x1, rfl, a1, a2⟩, _, _, rfl, ⟨x2, rfl, b1, b2⟩, rfl⟩
    refine ⟨_, _, rfl, ?_⟩
    show SO _ _ [.prv (DrawR v h0), .dat (dI row), .dat (.int M), .dat (.int (lmin row)), .dat (.int (lmax row)), .own (cs.map cy), .dat (.int k), .dat (.int x1), .dat (.int x2)] _
    refine so_if (b := !decide (x1 = x2)) (et_test (ed_op (ed_var rfl) (ed_var rfl) rd_neI)) (fun h => ?_) (fun h => ?_)
    · have h : x1 ≠ x2 := by simpa using h
      refine so_app rfl (d := cy (mkc x1 x2)) ?_ (size_lt (by rw [List.length_map]; omega)) ⟨cs ++ [mkc x1 x2], .dat (.int k), .dat (.int x1), .dat (.int x2), ?_, by rw [List.length_append]; simp; omega, fun p hp => ?_⟩
      · exact ed_tup (ea_cons (ed_cb (ea_cons (ed_var rfl) (ea_cons (ed_var rfl) ea_nil)) rc_min2) (ea_cons (ed_cb (ea_cons (ed_var rfl) (ea_cons (ed_var rfl) ea_nil)) rc_max2) ea_nil)) (by simp)
      · rw [List.map_append (f := cy)]; rfl
      · rcases List.mem_append.mp hp with hp | hp
        · exact hb p hp
        · simp at hp; subst hp
          unfold mkc
          show lmin row ≤ min x1 x2 ∧ min x1 x2 < max x1 x2 ∧ max x1 x2 ≤ lmax row
          omega
    · exact so_next ⟨cs, .dat (.int k), .dat (.int x1), .dat (.int x2), rfl, by omega, hb⟩
  · rintro n hn _ ⟨cs, x, y, z, rfl, hl, hb⟩
    refine so_frz (i := 5) rfl ?_
    show SO _ _ [.prv (DrawR v h0), .dat (dI row), .dat (.int M), .dat (.int (lmin row)), .dat (.int (lmax row)), .dat (dC cs), x, y, z] _
    refine so_ret (d := dC (srtC cs)) (ed_cb (ea_cons (ed_var rfl) ea_nil) rc_srtC) (.inl ⟨_, _, rfl, srtC cs, rfl, by rw [srtC_len]; omega, srtC_idem cs, fun p hp => hb p (srtC_mem.mp hp)⟩)
def rel_check_row (C : Addr) : List PyData → Rs → Prop := Rl1 (fun (d : PyData) => [d]) (fun d r => r = if isRowD d then .ok .none else .er C)
theorem cl_check_row {C : Addr} {d : PyData} : rel_check_row C [d] (if isRowD d then .ok .none else .er C) := ⟨d, rfl, rfl⟩
def RowF (C : Addr) (f : List Int → PyData) : List PyData → Rs → Prop := Rl1 (fun (d : PyData) => [d]) (fun d r => (∃ ns, RowOk ns ∧ d = dI ns ∧ r = .ok (f ns)) ∨ (isRowD d = false ∧ r = .er C))
theorem rowF_ok {C : Addr} {f : List Int → PyData} {ns : List Int} (h : RowOk ns) : RowF C f [dI ns] (.ok (f ns)) := ⟨_, rfl, .inl ⟨ns, h, rfl, rfl⟩⟩
theorem rowF_er {C : Addr} {f : List Int → PyData} {d : PyData} (h : isRowD d = false) : RowF C f [d] (.er C) := ⟨_, rfl, .inr ⟨h, rfl⟩⟩
theorem sq_row {E : XK} {ρ : Rho} {P : Out → Prop} {u : TS} {i : Nat} {C : Addr} {ns : List Int} (q : (fz ρ)[i]? = some (Sl.dat (dI ns))) (h : RowOk ns) (k : SO E u ρ P) :
    SO E (tSeq (tDrop (tCallS (PrS (rel_check_row C)) (WE fun cls d _ H => E cls d H) (tCons (tVar i) tNil))) u) ρ P :=
  sq_check (ea_cons (ed_var q) ea_nil) (cl_check_row (d := dI ns)) (fun _ => k) (fun z => by rw [isRowD_dI h] at z; cases z)
theorem sq_rowX {E : XK} {ρ : Rho} {P : Out → Prop} {u : TS} {i : Nat} {C : Addr} {d : PyData} (q : (fz ρ)[i]? = some (Sl.dat d)) (h : isRowD d = false) (k : P (.exc C)) :
    SO E (tSeq (tDrop (tCallS (PrS (rel_check_row C)) (WE fun cls d _ H => E cls d H) (tCons (tVar i) tNil))) u) ρ P :=
  sq_check (ea_cons (ed_var q) ea_nil) (cl_check_row (d := d)) (fun z => by rw [h] at z; cases z) (fun _ => k)
theorem sc_check_row : FnScope ["value"] ["value"] (defScope s_check_row) := ⟨rfl, rfl, rfl, by decide +kernel, rfl, by decide +kernel, by decide +kernel⟩
theorem ok_check_row (T : TX K mg) : FnOk P w K mg base (L2.CX P w) 3 T.a_check_row T.d_check_row ["value"] (PrS (rel_check_row T.C_BadRow)) := by
  refine T.F_check_row.okX sc_check_row (fun vs H Q E h => prs_len h (rl1_len (fun _ => rfl))) (fun cdv A outer s H vs Q E hr h => ?_)
  obtain ⟨G, ds, r, e, hv, hrel, wsh⟩ := h
  refine ⟨_, (pss_one (ps_if (PT.nox (pt_not (pt_val (pe_call (ok_is_row T) (hr.mono (by decide)) rfl T.g_is_row T.F_is_row.kp T.b_is_row .nil pass0 (pa_cons (pv 0) pa_nil))))) (pss_one (ps_raise rfl (takes_of rfl rfl rfl rfl) (pmk_own PySem.F.excBase_ValueError T.x_BadRow T.g_BadRow T.k_BadRow (raises_own T.e_BadRow T.t_BadRow) rfl))) pss_nil)), body_ok e hv wsh ?_⟩
  obtain ⟨d, rfl, rfl⟩ := hrel
  refine so_if (b := !isRowD d) (et_not (et_B (ed_call (ea_cons (ed_var rfl) ea_nil) cl_is_row))) (fun h => ?_) (fun h => ?_)
  · have h : isRowD d = false := by simpa using h
    rw [h]
    exact so_raise rfl
  · have h : isRowD d = true := by simpa using h
    rw [h]
    exact so_next rfl
local macro_rules | `(tactic| walk_at "rel") => `(tactic| with_reducible exact cl_check_row)
def rel_are_cycles : List PyData → Rs → Prop := Rl1 (fun (d : PyData) => [d]) (fun d r => r = .ok (.bool (areCyD d)))
theorem cl_are_cycles {d : PyData} : rel_are_cycles [d] (.ok (.bool (areCyD d))) := ⟨d, rfl, rfl⟩
theorem sc_are_cycles : FnScope ["value", "cycle"] ["value"] (defScope s_are_cycles) := ⟨rfl, rfl, rfl, by decide +kernel, rfl, by decide +kernel, by decide +kernel⟩
theorem ok_are_cycles (T : TX K mg) : FnOk P w K mg base CX0 3 T.a_are_cycles T.d_are_cycles ["value"] (PrS rel_are_cycles) := by
  refine T.F_are_cycles.ok sc_are_cycles (fun vs H Q E h => prs_len h (rl1_len (fun _ => rfl))) (fun cdv A outer s H vs Q E hr h => ?_)
  obtain ⟨G, ds, r, e, hv, hrel, wsh⟩ := h
  refine ⟨_, (pss_cons (ps_if (PW.pt (pw_or (pt_not (pt_val (pe_callB (cb_isiK (K := K) rfl) (by rfl) T.z_isinstance (by decide +kernel) (pa_cons (pv 0) (pa_cons (pe_bltn (v := .ty "list") (by rfl) T.z_list (by decide +kernel) rfl) pa_nil))))) (pw_or (pt_cmpR op_gt (pe_callB (cb_lenK (K := K) rfl) (by rfl) T.z_len (by decide +kernel) (pa_cons (pv 0) pa_nil)) (pe_glob (v := .int 10) rfl T.c_MOST_CYCLES ⟨_, rfl⟩) (nomark _)) (pw_or1 (pt_not (pt_val (pe_callB (cb_allK (K := K) rfl rfl) (by rfl) T.z_all (by decide +kernel) (pa_cons (pe_lc (own := [("cycle", 1)]) (g := gName 1) (tt := tYes) (by rfl) sc_are_cycles.nd (pi_listK (K := K) rfl (pv 0)) (blkOk_by (N := ["value", "cycle"]) (sc := defScope s_are_cycles) (own := [("cycle", 1)]) (by decide +kernel)) (fun _ _ _ _ _ => pg_name (i := 1) sc_are_cycles.nd rfl (Or.inl rfl)) (fun _ _ _ _ _ => pts_nil) (fun _ _ _ _ _ => (pe_call (ok_is_cycle T) (hr.mono (by decide)) rfl T.g_is_cycle T.F_is_cycle.kp T.b_is_cycle .nil pass0 (pa_cons (pv 1) pa_nil)))) pa_nil)))))))) (pss_one (ps_ret pe_bl)) pss_nil)
      (pss_one (ps_ret (pe_cmpR (op_eqK (K := K) rfl hr.units) (pv 0) (pe_callB (cb_srtK (K := K) rfl) (by rfl) T.z_sorted (by decide +kernel) (pa_cons (pv 0) pa_nil)) (nomark _))))), body_ok e hv wsh ?_⟩
  obtain ⟨d, rfl, rfl⟩ := hrel
  by_cases hl : ∃ ds, d = .list ds
  case neg =>
    have h2 : kitB (tyn d) "list" = some false := by
      cases d with
      | int i => exact kb_int_list
      | bool b => exact kb_bool_list
      | none => exact kb_NoneType_list
      | str x => exact kb_str_list
      | tuple x => exact kb_tuple_list
      | dict x => exact kb_dict_list
      | list ds => exact absurd ⟨_, rfl⟩ hl
    have h3 : areCyD d = false := by
      cases d with
      | list ds => exact absurd ⟨_, rfl⟩ hl
      | _ => rfl
    rw [h3]
    exact so_seq (so_if (b := true) (et_is (et_or (a := true) (b := false) (et_not (a := false) (et_B (ed_isi (d := d) (ed_var rfl) h2))) (fun z => Bool.noConfusion z)) rfl) (fun _ => so_ret ed_bl rfl) (fun z => Bool.noConfusion z))
  case pos =>
    obtain ⟨ds, rfl⟩ := hl
    refine so_seq (so_if (b := decide (10 < ds.length) || !(ds.all isCyD)) ?_ (fun h => ?_) (fun h => ?_))
    · refine et_is (et_or (a := false) (et_not (a := true) (et_B (ed_isi (d := .list ds) (ed_var rfl) kb_list_list))) (fun _ => et_or (a := decide (10 < ds.length)) (b := !(ds.all isCyD)) (et_is (et_test (ed_op (ed_cb (ea_cons (ed_var rfl) ea_nil) rc_len) ed_int rd_b)) ?_) (fun hz => et_not (et_B ?_)))) ?_
      · rw [decide_eq_decide]; omega
      · have hz : ¬ 10 < ds.length := of_decide_eq_false hz
        refine ed_is (ed_cb (ea_cons (ed_is (EN.ed (en_lcL (xs := ds) (en := id) (f := fun _ => true) (e := fun d => .bool (isCyD d)) (ed_is (ed_var rfl) (by rw [List.map_id])) (by omega) rfl (fun _ _ => et_yes) ?_)) (d1 := .list ((ds.map isCyD).map PyData.bool)) ?_) ea_nil) rc_all) ?_
        · intro x hx _
          exact ed_call (ea_cons (ed_var rfl) ea_nil) cl_is_cycle
        · rw [List.filter_eq_self.mpr (fun _ _ => rfl), List.map_map]; rfl
        · rw [List.all_map]; rfl
      · simp only [Bool.false_or]
    · refine so_ret ed_bl ?_
      have : areCyD (.list ds) = false := by
        simp only [areCyD]
        rw [Bool.or_eq_true, decide_eq_true_eq, Bool.not_eq_true'] at h
        rcases h with h | h
        · rw [decide_eq_false (by omega), Bool.false_and]
        · rw [h, Bool.false_and, Bool.and_false]
      rw [this]; rfl
    · refine so_next ?_
      rw [Bool.or_eq_false_iff, decide_eq_false_iff_not, Bool.not_eq_false'] at h
      obtain ⟨h1, h2⟩ := h
      have e1 : areCyD (.list ds) = decide (srtC (ds.map toCy) = ds.map toCy) := by simp only [areCyD, h2, Bool.true_and]; rw [decide_eq_true (by omega), Bool.true_and]
      rw [e1]
      obtain ⟨cs, rfl, hc⟩ := allCy h2
      rw [map_toCy]
      refine so_ret (d := .bool (decide (srtC cs = cs))) (ed_is (ed_op (ed_var rfl) (ed_cb (ea_cons (ed_var rfl) ea_nil) rc_srtC) rd_eqC) ?_) rfl
      congr 1
      rw [decide_eq_decide]
      exact ⟨fun z => z.symm, fun z => z.symm⟩
local macro_rules | `(tactic| walk_at "rel") => `(tactic| with_reducible exact cl_are_cycles)
def rel_parse_row (C : Addr) : List PyData → Rs → Prop := Rl1 (fun (d : PyData) => [d]) (fun d r => (∃ t, d = .str t ∧ t.length ≤ 1000 ∧ r = orC C ((pRow t).map fun ns => dI ns)) ∨ (isS d = false ∧ r = .er C))
theorem sc_parse_row : FnScope ["text", "found", "word"] ["text"] (defScope s_parse_row) := ⟨rfl, rfl, rfl, by decide +kernel, rfl, by decide +kernel, by decide +kernel⟩
theorem ok_parse_row (T : TX K mg) : FnOk P w K mg base (L2.CX P w) 3 T.a_parse_row T.d_parse_row ["text"] (PrS (rel_parse_row T.C_BadText)) := by
  refine T.F_parse_row.okX sc_parse_row (fun vs H Q E h => prs_len h (rl1_len (fun _ => rfl))) (fun cdv A outer s H vs Q E hr h => ?_)
  obtain ⟨G, ds, r, e, hv, hrel, wsh⟩ := h
  refine ⟨_, (pss_cons (ps_expr (pe_callS (ok_check_text T) (hr.mono (by decide)) rfl T.g_check_text T.F_check_text.kp T.b_check_text (fun σ => passAt (takes_of rfl rfl rfl rfl) σ) (pa_cons (pv 0) pa_nil)))
      (pss_cons (ps_setLcX (i := 1) (own := [("word", 2)]) (g := gName 2) (by rfl) rfl rfl (takes_of rfl rfl rfl rfl) sc_parse_row.nd rfl rfl (sw_true rfl rfl rfl (by decide +kernel)) (pi_listK (K := K) rfl (pe_splitS (pv 0) pe_str)) (blkOk_by (N := ["text", "found", "word"]) (sc := defScope s_parse_row) (own := [("word", 2)]) (by decide +kernel)) (fun _ _ _ _ _ => pg_name (i := 2) sc_parse_row.nd rfl (Or.inl rfl)) (fun _ _ _ _ _ xe hx => (pe_callS (ok_parse_number T) (hr.mono (by decide)) rfl T.g_parse_number T.F_parse_number.kp T.b_parse_number hx (pa_cons (pv 2) pa_nil))))
      (pss_cons (ps_if (PT.nox (pt_not (pt_val (pe_call (ok_is_row T) (hr.mono (by decide)) rfl T.g_is_row T.F_is_row.kp T.b_is_row .nil pass0 (pa_cons (pv 1) pa_nil))))) (pss_one (ps_raise rfl (takes_of rfl rfl rfl rfl) (pmk_own PySem.F.excBase_ValueError T.x_BadText T.g_BadText T.k_BadText (raises_own T.e_BadText T.t_BadText) rfl))) pss_nil)
      (PSs.nox (pss_one (ps_ret (pv 1))))))), body_ok e hv wsh ?_⟩
  obtain ⟨d, rfl, h⟩ := hrel
  rcases h with ⟨t, rfl, hl, rfl⟩ | ⟨hb, rfl⟩
  · show SO _ _ [.dat (.str t), .un, .un] _
    refine sq_text rfl (fun _ => ?_) (fun z => by cases z)
    have hn := split_num (a := t) sep1.1 sep1.2
    refine so_seq (so_lcX (i := 1) (j := 2) (xs := Txt.split t " ") (en := PyData.str) (e := fun w => .int (pnv w)) (ok := fun w => (pn w).isSome = true) (C := T.C_BadText) (ed_split (ed_var rfl) ed_str (by decide +kernel) (by omega)) (by omega) (by simp) (fun w hw => ?_) (fun hall => ?_))
    · have hwl := split_len sep1.1 sep1.2 hw
      have hr := cl_parse_number (C := T.C_BadText) (w := w) (by omega)
      cases e : pn w with
      | some n =>
        refine .inl ⟨rfl, ?_⟩
        rw [e] at hr
        have e2 : pnv w = n := by unfold pnv; rw [e]; rfl
        rw [e2]
        exact hr
      | none =>
        rw [e] at hr
        refine .inr ⟨hr, ?_⟩
        show Is _ _
        rw [pRow_no hw e]
        rfl
    · have e : (Txt.split t " ").map (fun w => PyData.int (pnv w)) = ((Txt.split t " ").map pnv).map PyData.int := by rw [List.map_map]; rfl
      rw [e]
      have hrow : pRow t = if isRowD (dI ((Txt.split t " ").map pnv)) = true then some ((Txt.split t " ").map pnv) else none := by
        unfold pRow
        have ha : (Txt.split t " ").all (fun w => (pn w).isSome) = true := List.all_eq_true.mpr hall
        rw [ha]
        simp only [true_and]
      rw [hrow]
      show SO _ _ [.dat (.str t), .dat (dI ((Txt.split t " ").map pnv)), .un] _
      refine so_seq (so_if (b := !isRowD (dI ((Txt.split t " ").map pnv))) (et_not (et_B (ed_call (ea_cons (ed_var rfl) ea_nil) cl_is_row))) (fun h => ?_) (fun h => ?_))
      · have h : isRowD (dI ((Txt.split t " ").map pnv)) = false := by simpa using h
        rw [if_neg (by rw [h]; exact Bool.false_ne_true)]
        exact so_raise rfl
      · have h : isRowD (dI ((Txt.split t " ").map pnv)) = true := by simpa using h
        rw [if_pos h]
        exact so_next (so_ret (ed_var rfl) rfl)
  · exact sq_text rfl (fun z => by rw [hb] at z; cases z) (fun _ => rfl)
def rel__law_row : List PyData → (PyData → Prop) → Prop := fun ds post => ∃ M : Int, ds = [.int M] ∧ (1 ≤ M ∧ M ≤ 1000) ∧ post = fun d => ∃ ns : List Int, d = dI ns ∧ ns ≠ [] ∧ (ns.length : Int) ≤ M ∧ ∀ x ∈ ns, -50 ≤ x ∧ x ≤ 50
theorem ex_row {E : XK} {ρ : Rho} {v0 : V} {h0 : Hp} {te : TE} {M : Int} {i : Nat} (q : ρ[i]? = some (Sl.prv (DrawR v0 h0))) (h : ED te ρ (.int M)) (h1 : 1 ≤ M) (h2 : M ≤ 1000) : EX (tCall (PrD rel__law_row) [] E (tCons (tVar i) (tCons te tNil))) ρ (fun d => ∃ ns : List Int, d = dI ns ∧ ns ≠ [] ∧ (ns.length : Int) ≤ M ∧ ∀ x ∈ ns, -50 ≤ x ∧ x ≤ 50) :=
  ex_call (PA := (· = [PyData.int M])) q (exa_ea (ea_cons h ea_nil)) (by rintro _ rfl; exact ⟨_, ⟨_, rfl, ⟨h1, h2⟩, rfl⟩, fun d z => z⟩)
theorem sc__law_row : FnScope ["draws", "most", "wide", "stay", "found", "k", "value"] ["draws", "most"] (defScope s__law_row) := ⟨rfl, rfl, rfl, by decide +kernel, rfl, by decide +kernel, by decide +kernel⟩
theorem ok__law_row (T : TX K mg) : FnOk P w K mg base CX0 3 T.a__law_row T.d__law_row ["draws", "most"] (PrD rel__law_row) := by
  refine T.F__law_row.ok sc__law_row (fun vs H Q E h => prd_len h (n := 1) (fun ds p ⟨L, z, _⟩ => by rw [z]; rfl)) (fun cdv A outer s H vs Q E hr h => ?_)
  obtain ⟨G, h0, v, ws, ds, post, hvs, hI, hsub, hdis, e, hw, hrel, q⟩ := h
  refine ⟨_, (pss_cons (ps_set (i := 2) sc__law_row.nd rfl (by first | exact Or.inl rfl | exact Or.inr rfl) (pe_call (ok__law_pick T) (hr.mono (by decide)) rfl T.g__law_pick T.F__law_pick.kp T.b__law_pick .nil pass0 (pa_cons (pv 0) (pa_cons (pe_lst (pa_cons pe_int (pa_cons pe_int (pa_cons pe_int (pa_cons pe_int pa_nil))))) pa_nil))))
      (pss_cons (ps_set (i := 3) sc__law_row.nd rfl (by first | exact Or.inl rfl | exact Or.inr rfl) (pe_call (ok__law_draw T) (hr.mono (by decide)) rfl T.g__law_draw T.F__law_draw.kp T.b__law_draw .nil pass0 (pa_cons (pv 0) (pa_cons pe_int pa_nil))))
      (pss_cons (ps_set (i := 4) sc__law_row.nd rfl (by first | exact Or.inl rfl | exact Or.inr rfl) (pe_lst (pa_cons (pe_op op_sub (pe_call (ok__law_draw T) (hr.mono (by decide)) rfl T.g__law_draw T.F__law_draw.kp T.b__law_draw .nil pass0 (pa_cons (pv 0) (pa_cons (pv 2) pa_nil))) (pe_op op_fdivN (pv 2) pe_int)) pa_nil)))
      (pss_cons (ps_for PassesOwn.never rfl (pi_range1 (by rfl) T.z_range (pa_cons (pe_call (ok__law_draw T) (hr.mono (by decide)) rfl T.g__law_draw T.F__law_draw.kp T.b__law_draw .nil pass0 (pa_cons (pv 0) (pa_cons (pv 1) pa_nil))) pa_nil)) (pg_name (i := 5) sc__law_row.nd rfl (by first | exact Or.inl rfl | exact Or.inr rfl)) (pss_cons (ps_set (i := 6) sc__law_row.nd rfl (by first | exact Or.inl rfl | exact Or.inr rfl) (pe_op op_sub (pe_call (ok__law_draw T) (hr.mono (by decide)) rfl T.g__law_draw T.F__law_draw.kp T.b__law_draw .nil pass0 (pa_cons (pv 0) (pa_cons (pv 2) pa_nil))) (pe_op op_fdivN (pv 2) pe_int)))
      (pss_one (ps_expr (pe_bmK (K := K) rfl PySem.F.plainAttrs_list PySem.F.slot_list_append PySem.F.type_list_append mt_append (pv 4) (pa_cons (pe_ifExp (pt_cmpR op_lt (pe_call (ok__law_draw T) (hr.mono (by decide)) rfl T.g__law_draw T.F__law_draw.kp T.b__law_draw .nil pass0 (pa_cons (pv 0) (pa_cons pe_int pa_nil))) (pv 3) (nomark _)) (pe_ix (ix_seqK (K := K) rfl) (pv 4) (pe_un un_neg pe_int) (fun _ _ => rfl)) (pv 6)) pa_nil))))))
      (pss_one (ps_ret (pv 4))))))), draw_ok (E := E) hvs hI hsub hdis e hw q ?_⟩
  obtain ⟨M, rfl, ⟨hM1, hM2⟩, rfl⟩ := hrel
  show SO _ _ [.prv (DrawR v h0), .dat (.int M), .un, .un, .un, .un, .un] _
  refine sq_asgX (P := fun d => ∃ w, d = .int w ∧ 2 ≤ w ∧ w ≤ 100) (ex_call (PA := (· = [PyData.list [.int 2, .int 4, .int 9, .int 100]])) rfl (exa_ea (by walk_at "ev")) ?_) ?_
  · rintro _ rfl
    refine ⟨_, ⟨_, rfl, ⟨by simp, by simp⟩, rfl⟩, fun d z => ?_⟩
    simp only [List.mem_cons, List.not_mem_nil, or_false] at z
    rcases z with rfl | rfl | rfl | rfl
    · exact ⟨2, rfl, by omega, by omega⟩
    · exact ⟨4, rfl, by omega, by omega⟩
    · exact ⟨9, rfl, by omega, by omega⟩
    · exact ⟨100, rfl, by omega, by omega⟩
  rintro _ ⟨w, rfl, hw1, hw2⟩
  refine sq_asgX (ex_draw rfl ed_int (by omega) (by omega)) ?_
  rintro _ ⟨st, rfl, _, _⟩
  have hv : ∀ {ρ : Rho}, ρ[0]? = some (Sl.prv (DrawR v h0)) → ρ[2]? = some (Sl.dat (.int w)) → EX (tOp (rI0 fun i j => .int (i - j)) (tCall (PrD rel__law_draw) [] E0 (tCons (tVar 0) (tCons (tVar 2) tNil))) (tOp (rI CDivN fun i j => .int (i.fdiv j)) (tVar 2) (tC (.int 2)))) ρ (fun d => ∃ x, d = .int x ∧ -50 ≤ x ∧ x ≤ 50) := fun {ρ} q0 q2 => by
    refine ex_op (P1 := fun d => ∃ r, d = .int r ∧ 0 ≤ r ∧ r < w) (P2 := (· = PyData.int (w.fdiv 2))) (ex_draw q0 (ed_var q2) (by omega) (by omega)) (fun _ _ => ex_ed (ed_op (ed_var q2) ed_int (rd_c (by unfold CDivN; omega)))) ?_
    rintro _ _ ⟨r, rfl, h1, h2⟩ rfl
    refine ⟨_, ⟨r - w.fdiv 2, rfl, ?_⟩, rd_i (f := fun i j => i - j)⟩
    rw [Int.fdiv_eq_ediv_of_nonneg w (by omega)]
    omega
  refine sq_asgL (hv rfl rfl) ?_
  rintro _ ⟨x0, rfl, hx1, hx2⟩
  refine sq_forX (B := fun n => 0 ≤ n ∧ n < M) ((ex_draw rfl (ed_var rfl) (by omega) (by omega)).imp fun d ⟨r, z, a, b⟩ => ⟨r, z, a, b⟩) (fun n hn => by omega)
    (fun n k ρ' => ∃ (ns : List Int) (y z : Sl), ρ' = [.prv (DrawR v h0), .dat (.int M), .dat (.int w), .dat (.int st), .own (ns.map PyData.int), y, z] ∧ ns.length = k + 1 ∧ ∀ x ∈ ns, -50 ≤ x ∧ x ≤ 50) ?_ ?_ ?_
  · intro n _
    exact ⟨[x0], _, _, rfl, rfl, fun x hx => by simp at hx; subst hx; exact ⟨hx1, hx2⟩⟩
  · rintro n hn k _ hk ⟨ns, y, z, rfl, hl, hb⟩
    refine ⟨_, ts_name, ?_⟩
    refine so_seq (so_asgX (hv rfl rfl) ?_)
    rintro _ ⟨x, rfl, hx3, hx4⟩
    show SO _ _ [.prv (DrawR v h0), .dat (.int M), .dat (.int w), .dat (.int st), .own (ns.map PyData.int), .dat (.int k), .dat (.int x)] _
    have hne : ns ≠ [] := by intro z; subst z; simp at hl
    have hpos := List.length_pos_iff.mpr hne
    refine so_appX (P := fun d => ∃ x, d = .int x ∧ -50 ≤ x ∧ x ≤ 50) rfl ?_ (by rw [List.length_map]; omega) ?_
    · refine ex_if (ex_op (P1 := fun d => ∃ r, d = .int r ∧ 0 ≤ r ∧ r < 4) (P2 := (· = PyData.int st)) (ex_draw rfl ed_int (by omega) (by omega)) (fun _ _ => ex_ed (ed_var rfl)) ?_) ?_ ?_
      · rintro _ _ ⟨r, rfl, _, _⟩ rfl
        exact ⟨_, ⟨_, rfl⟩, rd_b⟩
      · refine (ex_edS (d := .int (gI ns (-1))) ?_ trivial).imp ?_
        · exact ed_op (ed_var rfl) (ed_un ed_int fun _ => .int _) (rd_ixM (by omega) (by omega))
        · rintro _ rfl
          refine ⟨_, rfl, hb _ (gI_mem (by omega) (by omega))⟩
      · exact (ex_ed (ed_var rfl)).imp fun d z => ⟨x, z, hx3, hx4⟩
    · rintro _ ⟨x', rfl, hx5, hx6⟩
      refine ⟨ns ++ [x'], .dat (.int k), .dat (.int x), ?_, by rw [List.length_append, hl]; rfl, fun u hu => ?_⟩
      · rw [List.map_append]; rfl
      · rcases List.mem_append.mp hu with hu | hu
        · exact hb u hu
        · simp at hu; subst hu; exact ⟨hx5, hx6⟩
  · rintro n hn _ ⟨ns, y, z, rfl, hl, hb⟩
    refine so_retO (i := 4) rfl (.inr ⟨_, _, rfl, ns, rfl, ?_, by omega, hb⟩)
    intro z; subst z; simp at hl
def rel_check_cycles (C : Addr) : List PyData → Rs → Prop := Rl1 (fun (d : PyData) => [d]) (fun d r => r = if areCyD d then .ok .none else .er C)
theorem cl_check_cycles {C : Addr} {d : PyData} : rel_check_cycles C [d] (if areCyD d then .ok .none else .er C) := ⟨d, rfl, rfl⟩
theorem sq_cycles {E : XK} {ρ : Rho} {P : Out → Prop} {u : TS} {i : Nat} {C : Addr} {d : PyData} (q : (fz ρ)[i]? = some (Sl.dat d)) (h1 : areCyD d = true → SO E u ρ P) (h2 : areCyD d = false → P (.exc C)) :
    SO E (tSeq (tDrop (tCallS (PrS (rel_check_cycles C)) (WE fun cls d _ H => E cls d H) (tCons (tVar i) tNil))) u) ρ P :=
  sq_check (ea_cons (ed_var q) ea_nil) (cl_check_cycles (d := d)) h1 h2
theorem sc_check_cycles : FnScope ["value"] ["value"] (defScope s_check_cycles) := ⟨rfl, rfl, rfl, by decide +kernel, rfl, by decide +kernel, by decide +kernel⟩
theorem ok_check_cycles (T : TX K mg) : FnOk P w K mg base (L2.CX P w) 4 T.a_check_cycles T.d_check_cycles ["value"] (PrS (rel_check_cycles T.C_BadCycles)) := by
  refine T.F_check_cycles.okX sc_check_cycles (fun vs H Q E h => prs_len h (rl1_len (fun _ => rfl))) (fun cdv A outer s H vs Q E hr h => ?_)
  obtain ⟨G, ds, r, e, hv, hrel, wsh⟩ := h
  refine ⟨_, (pss_one (ps_if (PT.nox (pt_not (pt_val (pe_call (ok_are_cycles T) (hr.mono (by decide)) rfl T.g_are_cycles T.F_are_cycles.kp T.b_are_cycles .nil pass0 (pa_cons (pv 0) pa_nil))))) (pss_one (ps_raise rfl (takes_of rfl rfl rfl rfl) (pmk_own PySem.F.excBase_ValueError T.x_BadCycles T.g_BadCycles T.k_BadCycles (raises_own T.e_BadCycles T.t_BadCycles) rfl))) pss_nil)), body_ok e hv wsh ?_⟩
  obtain ⟨d, rfl, rfl⟩ := hrel
  refine so_if (b := !areCyD d) (et_not (et_B (ed_call (ea_cons (ed_var rfl) ea_nil) cl_are_cycles))) (fun h => ?_) (fun h => ?_)
  · have h : areCyD d = false := by simpa using h
    rw [h]
    exact so_raise rfl
  · have h : areCyD d = true := by simpa using h
    rw [h]
    exact so_next rfl
local macro_rules | `(tactic| walk_at "rel") => `(tactic| with_reducible exact cl_check_cycles)
abbrev rel_format_row (C : Addr) : List PyData → Rs → Prop := RowF C (fun ns => .str (fmtR ns))
theorem cl_format_row {C : Addr} {ns : List Int} (h : RowOk ns) : rel_format_row C [dI ns] (.ok (.str (fmtR ns))) := rowF_ok (f := fun ns => .str (fmtR ns)) h
theorem sc_format_row : FnScope ["row", "value"] ["row"] (defScope s_format_row) := ⟨rfl, rfl, rfl, by decide +kernel, rfl, by decide +kernel, by decide +kernel⟩
theorem ok_format_row (T : TX K mg) : FnOk P w K mg base (L2.CX P w) 4 T.a_format_row T.d_format_row ["row"] (PrS (rel_format_row T.C_BadRow)) := by
  refine T.F_format_row.okX sc_format_row (fun vs H Q E h => prs_len h (rl1_len (fun _ => rfl))) (fun cdv A outer s H vs Q E hr h => ?_)
  obtain ⟨G, ds, r, e, hv, hrel, wsh⟩ := h
  refine ⟨_, (pss_cons (ps_expr (pe_callS (ok_check_row T) (hr.mono (by decide)) rfl T.g_check_row T.F_check_row.kp T.b_check_row (fun σ => passAt (takes_of rfl rfl rfl rfl) σ) (pa_cons (pv 0) pa_nil)))
      (PSs.nox (pss_one (ps_ret (pe_joinK (K := K) rfl pe_str (pe_lc (own := [("value", 1)]) (g := gName 1) (tt := tYes) (by rfl) sc_format_row.nd (pi_listK (K := K) rfl (pv 0)) (blkOk_by (N := ["row", "value"]) (sc := defScope s_format_row) (own := [("value", 1)]) (by decide +kernel)) (fun _ _ _ _ _ => pg_name (i := 1) sc_format_row.nd rfl (Or.inl rfl)) (fun _ _ _ _ _ => pts_nil) (fun _ _ _ _ _ => (pe_callTy cb_strI (by rfl) T.z_str (by decide +kernel) (pa_cons (pv 1) pa_nil))))))))), body_ok e hv wsh ?_⟩
  obtain ⟨d, rfl, h⟩ := hrel
  rcases h with ⟨ns, hok, rfl, rfl⟩ | ⟨hb, rfl⟩
  · refine sq_row rfl hok ?_
    have hne := hok.1
    have hlen := hok.2.1
    have hpos := List.length_pos_iff.mpr hne
    have hbd := hok.2.2
    refine so_ret (d := .str (fmtR ns)) (ed_join (ys := ns.map txN) ed_str (ed_lcL (xs := ns) (en := PyData.int) (f := fun _ => true) (e := fun n => .str (txN n)) (ed_var rfl) (by omega) rfl (fun _ _ => et_yes) (fun n hn _ => ed_cb (ea_cons (ed_var rfl) ea_nil) (rc_strI (numLog (hbd n hn).1 (hbd n hn).2))) (by rw [List.filter_eq_self.mpr (fun _ _ => rfl), List.map_map]; rfl)) (Nat.le_trans (row_sum hbd hlen) (by omega))) rfl
  · exact sq_rowX rfl hb rfl
local macro_rules | `(tactic| walk_at "rel") => `(tactic| ((with_reducible apply cl_format_row) <;> try (walk_at "side")))
def rel_parse_cycles (C : Addr) : List PyData → Rs → Prop := Rl1 (fun (d : PyData) => [d]) (fun d r => (∃ t, d = .str t ∧ t.length ≤ 1000 ∧ r = orC C ((pCyc t).map fun cs => dC cs)) ∨ (isS d = false ∧ r = .er C))
theorem sc_parse_cycles : FnScope ["text", "found", "word", "parts"] ["text"] (defScope s_parse_cycles) := ⟨rfl, rfl, rfl, by decide +kernel, rfl, by decide +kernel, by decide +kernel⟩
theorem ok_parse_cycles (T : TX K mg) : FnOk P w K mg base (L2.CX P w) 4 T.a_parse_cycles T.d_parse_cycles ["text"] (PrS (rel_parse_cycles T.C_BadText)) := by
  refine T.F_parse_cycles.okX sc_parse_cycles (fun vs H Q E h => prs_len h (rl1_len (fun _ => rfl))) (fun cdv A outer s H vs Q E hr h => ?_)
  obtain ⟨G, ds, r, e, hv, hrel, wsh⟩ := h
  refine ⟨_, (pss_cons (ps_expr (pe_callS (ok_check_text T) (hr.mono (by decide)) rfl T.g_check_text T.F_check_text.kp T.b_check_text (fun σ => passAt (takes_of rfl rfl rfl rfl) σ) (pa_cons (pv 0) pa_nil)))
      (pss_cons (PS_nox (ps_set (i := 1) sc_parse_cycles.nd rfl (by first | exact Or.inl rfl | exact Or.inr rfl) (pe_lst pa_nil)))
      (pss_cons (ps_for (passes_of rfl) rfl (pi_listK (K := K) rfl (pe_ifExp (pt_cmpR op_ne (pv 0) pe_str (nomark _)) (pe_splitS (pv 0) pe_str) (pe_lst pa_nil))) (pg_name (i := 2) sc_parse_cycles.nd rfl (by first | exact Or.inl rfl | exact Or.inr rfl)) (pss_cons (PS_nox (ps_set (i := 3) sc_parse_cycles.nd rfl (by first | exact Or.inl rfl | exact Or.inr rfl) (pe_splitS (pv 2) pe_str)))
      (pss_cons (ps_if (PT.nox (pt_cmpR (op_neK (K := K) rfl hr.units) (pe_callB (cb_lenK (K := K) rfl) (by rfl) T.z_len (by decide +kernel) (pa_cons (pv 3) pa_nil)) pe_int (nomark _))) (pss_one (ps_raise rfl (takes_of rfl rfl rfl rfl) (pmk_own PySem.F.excBase_ValueError T.x_BadText T.g_BadText T.k_BadText (raises_own T.e_BadText T.t_BadText) rfl))) pss_nil)
      (pss_one (ps_expr (pe_bmK (K := K) rfl PySem.F.plainAttrs_list PySem.F.slot_list_append PySem.F.type_list_append mt_append (pv 1) (pa_cons (pe_tup (pa_cons (pe_callS (ok_parse_number T) (hr.mono (by decide)) rfl T.g_parse_number T.F_parse_number.kp T.b_parse_number (fun σ => passAt (takes_of rfl rfl rfl rfl) σ) (pa_cons (pe_ix (ix_seqK (K := K) rfl) (pv 3) pe_int (fun _ _ => rfl)) pa_nil)) (pa_cons (pe_callS (ok_parse_number T) (hr.mono (by decide)) rfl T.g_parse_number T.F_parse_number.kp T.b_parse_number (fun σ => passAt (takes_of rfl rfl rfl rfl) σ) (pa_cons (pe_ix (ix_seqK (K := K) rfl) (pv 3) pe_int (fun _ _ => rfl)) pa_nil)) pa_nil))) pa_nil)))))))
      (pss_cons (ps_if (PT.nox (pt_not (pt_val (pe_call (ok_are_cycles T) (hr.mono (by decide)) rfl T.g_are_cycles T.F_are_cycles.kp T.b_are_cycles .nil pass0 (pa_cons (pv 1) pa_nil))))) (pss_one (ps_raise rfl (takes_of rfl rfl rfl rfl) (pmk_own PySem.F.excBase_ValueError T.x_BadText T.g_BadText T.k_BadText (raises_own T.e_BadText T.t_BadText) rfl))) pss_nil)
      (PSs.nox (pss_one (ps_ret (pv 1)))))))), body_ok e hv wsh ?_⟩
  obtain ⟨d, rfl, h⟩ := hrel
  rcases h with ⟨t, rfl, hl, rfl⟩ | ⟨hb, rfl⟩
  · show SO _ _ [.dat (.str t), .un, .un, .un] _
    refine sq_text rfl (fun _ => ?_) (fun z => by cases z)
    have hn := wds_num t
    apply sq_asgN (ds := [])
    · exact en_lst ea_nil (by simp)
    show SO _ _ [.dat (.str t), .own [], .un, .un] _
    refine sq_forL (xs := wds t) (en := PyData.str) ?_ (fun n ρ' => ∃ v2 v3, ρ' = [.dat (.str t), .own (((wds t).take n).map fun w => cy (pwv w)), v2, v3] ∧ ∀ w ∈ (wds t).take n, (pw w).isSome = true) ⟨.un, .un, rfl, fun w hw => by rw [List.take_zero] at hw; cases hw⟩ ?_ ?_
    · refine ed_is (ed_if (b := !decide (t = "")) (d1 := .list ((Txt.split t " ").map PyData.str)) (d2 := .list []) (et_test (ed_op (ed_var rfl) ed_str rd_neX)) (fun _ => ed_split (ed_var rfl) ed_str (by decide +kernel) (by omega)) (fun _ => ed_lst ea_nil (by simp))) ?_
      unfold wds
      by_cases hz : t = ""
      · rw [if_pos hz, decide_eq_true hz]; rfl
      · rw [if_neg hz, decide_eq_false hz]; rfl
    · rintro n w _ hw ⟨v2, v3, rfl, hall⟩
      have hm : w ∈ wds t := List.mem_of_getElem? hw
      have hwl := wds_len hm
      have hs2 := split_num (a := w) sep2.1 sep2.2
      have take1 : (wds t).take (n + 1) = (wds t).take n ++ [w] := by rw [List.take_add_one, hw]; rfl
      refine ⟨_, ts_name, ?_⟩
      show SO _ _ [.dat (.str t), .own (((wds t).take n).map fun w => cy (pwv w)), .dat (.str w), v3] _
      refine sq_asg (d := .list ((Txt.split w "..").map PyData.str)) (ed_split (ed_var rfl) ed_str (by decide +kernel) (by omega)) ?_
      show SO _ _ [.dat (.str t), .own (((wds t).take n).map fun w => cy (pwv w)), .dat (.str w), .dat (.list ((Txt.split w "..").map PyData.str))] _
      refine so_seq (so_if (b := !decide ((Txt.split w "..").length = 2)) (et_is (et_test (ed_op (ed_cb (ea_cons (ed_var rfl) ea_nil) rc_lenM) ed_int rd_neI)) ?_) (fun h => ?_) (fun h => ?_))
      · congr 1
        rw [decide_eq_decide]
        omega
      · have h : ¬ (Txt.split w "..").length = 2 := by simpa using h
        refine so_raise ?_
        show Is _ _
        rw [pCyc_no hm (pw_len h)]
        rfl
      · have h : (Txt.split w "..").length = 2 := by simpa using h
        obtain ⟨a, b, hab⟩ : ∃ a b, Txt.split w ".." = [a, b] := by
          match Txt.split w "..", h with
          | [a, b], _ => exact ⟨a, b, rfl⟩
        have hal := split_len (p := a) sep2.1 sep2.2 (by rw [hab]; simp)
        have hbl := split_len (p := b) sep2.1 sep2.2 (by rw [hab]; simp)
        rw [hab]
        refine so_next ?_
        show SO _ _ [.dat (.str t), .own (((wds t).take n).map fun w => cy (pwv w)), .dat (.str w), .dat (.list ([a, b].map PyData.str))] _
        have hcl : (((wds t).take n).map fun w => cy (pwv w)).length ≤ (wds t).length := by rw [List.length_map, List.length_take]; omega
        refine so_appPr (i := 1) (d1 := .str a) (d2 := .str b) (rel := rel_parse_number T.C_BadText) (r1 := orC T.C_BadText ((pn a).map PyData.int)) (r2 := orC T.C_BadText ((pn b).map PyData.int)) rfl (ed_op (ed_var rfl) ed_int (rd_ix rfl)) (ed_op (ed_var rfl) ed_int (rd_ix rfl)) (cl_parse_number (by omega)) (cl_parse_number (by omega)) (by omega) (fun C z => ?_) (fun C z => ?_) (fun es => ?_) (fun x y z1 z2 => ?_)
        · show Is _ _
          cases e : pn a with
          | some n => rw [e] at z; cases z
          | none =>
            rw [e] at z; cases z
            rw [pCyc_no hm (pw_no hab (.inl e))]
            rfl
        · show Is _ _
          cases e : pn b with
          | some n => rw [e] at z; cases z
          | none =>
            rw [e] at z; cases z
            rw [pCyc_no hm (pw_no hab (.inr e))]
            rfl
        · cases pn a <;> cases pn b <;> exact ⟨(fun z => nomatch z), (fun z => nomatch z)⟩
        · cases ea : pn a with
          | none => rw [ea] at z1; cases z1
          | some m =>
            cases eb : pn b with
            | none => rw [eb] at z2; cases z2
            | some k =>
              rw [ea] at z1; cases z1
              rw [eb] at z2; cases z2
              have e1 := pw_yes hab ea eb
              refine ⟨.dat (.str w), .dat (.list ([a, b].map PyData.str)), ?_, fun w' hw' => ?_⟩
              · rw [take1, List.map_append]
                show _ = [_, _, _, _]
                unfold pwv
                simp only [List.map_cons, List.map_nil, e1]
                rfl
              · rw [take1] at hw'
                rcases List.mem_append.mp hw' with hw' | hw'
                · exact hall w' hw'
                · rw [List.mem_singleton] at hw'
                  rw [hw', e1]; rfl
    · rintro _ ⟨v2, v3, rfl, hall⟩
      rw [List.take_length] at hall
      rw [List.take_length]
      have e : (wds t).map (fun w => cy (pwv w)) = ((wds t).map pwv).map cy := by rw [List.map_map]; rfl
      rw [e]
      have hrow : pCyc t = if areCyD (dC ((wds t).map pwv)) = true then some ((wds t).map pwv) else none := by
        unfold pCyc
        have ha : (wds t).all (fun w => (pw w).isSome) = true := List.all_eq_true.mpr hall
        rw [ha]
        simp only [true_and]
      rw [hrow]
      show SO _ _ [.dat (.str t), .own (((wds t).map pwv).map cy), v2, v3] _
      refine so_seq (so_if (b := !areCyD (dC ((wds t).map pwv))) (et_not (et_B (ed_call (ea_cons (ed_var rfl) ea_nil) cl_are_cycles))) (fun h => ?_) (fun h => ?_))
      · have h : areCyD (dC ((wds t).map pwv)) = false := by simpa using h
        rw [if_neg (by rw [h]; exact Bool.false_ne_true)]
        exact so_raise rfl
      · have h : areCyD (dC ((wds t).map pwv)) = true := by simpa using h
        rw [if_pos h]
        exact so_next (so_retO (i := 1) rfl rfl)
  · exact sq_text rfl (fun z => by rw [hb] at z; cases z) (fun _ => rfl)
def rel_format_cycles (C : Addr) : List PyData → Rs → Prop := Rl1 (fun (d : PyData) => [d]) (fun d r => (∃ cs, d = dC cs ∧ CyOk cs ∧ r = .ok (.str (fmtC cs))) ∨ (areCyD d = false ∧ r = .er C))
theorem cl_format_cycles {C : Addr} {cs : List (Int × Int)} (h : CyOk cs) : rel_format_cycles C [dC cs] (.ok (.str (fmtC cs))) := ⟨_, rfl, .inl ⟨cs, rfl, h, rfl⟩⟩
theorem sc_format_cycles : FnScope ["cycles", "low", "high"] ["cycles"] (defScope s_format_cycles) := ⟨rfl, rfl, rfl, by decide +kernel, rfl, by decide +kernel, by decide +kernel⟩
theorem ok_format_cycles (T : TX K mg) : FnOk P w K mg base (L2.CX P w) 5 T.a_format_cycles T.d_format_cycles ["cycles"] (PrS (rel_format_cycles T.C_BadCycles)) := by
  refine T.F_format_cycles.okX sc_format_cycles (fun vs H Q E h => prs_len h (rl1_len (fun _ => rfl))) (fun cdv A outer s H vs Q E hr h => ?_)
  obtain ⟨G, ds, r, e, hv, hrel, wsh⟩ := h
  refine ⟨_, (pss_cons (ps_expr (pe_callS (ok_check_cycles T) (hr.mono (by decide)) rfl T.g_check_cycles T.F_check_cycles.kp T.b_check_cycles (fun σ => passAt (takes_of rfl rfl rfl rfl) σ) (pa_cons (pv 0) pa_nil)))
      (PSs.nox (pss_one (ps_ret (pe_joinK (K := K) rfl pe_str (pe_lc (own := [("low", 1), ("high", 2)]) (g := gTup K 2 (gCons (gName 1) (gCons (gName 2) gNil))) (tt := tYes) (by rfl) sc_format_cycles.nd (pi_listK (K := K) rfl (pv 0)) (blkOk_by (N := ["cycles", "low", "high"]) (sc := defScope s_format_cycles) (own := [("low", 1), ("high", 2)]) (by decide +kernel)) (fun _ _ _ _ _ => pg_tupK (K := K) rfl rfl (pgs_cons (pg_name (i := 1) sc_format_cycles.nd rfl (Or.inl rfl)) (pgs_cons (pg_name (i := 2) sc_format_cycles.nd rfl (Or.inl rfl)) pgs_nil))) (fun _ _ _ _ _ => pts_nil) (fun _ _ _ _ _ => (pe_fst (PJ.cons (pe_fmt (pv 1)) (PJ.cons pe_str (PJ.cons (pe_fmt (pv 2)) PJ.nil))))))))))), body_ok e hv wsh ?_⟩
  obtain ⟨d, rfl, h⟩ := hrel
  rcases h with ⟨cs, rfl, hc, rfl⟩ | ⟨hb, rfl⟩
  · refine sq_cycles rfl (fun _ => ?_) (fun z => by rw [areCyD_dC hc] at z; cases z)
    have hl := hc.1
    have hbd : ∀ p ∈ cs, (-99 ≤ p.1 ∧ p.1 ≤ 99) ∧ (-99 ≤ p.2 ∧ p.2 ≤ 99) := fun p hp => by have := hc.2.1 p hp; omega
    refine so_ret (d := .str (fmtC cs)) (ed_join (ys := cs.map fmtP) ed_str (ed_is (EN.ed (ds := (cs.filter fun _ => true).map fun p => .str (fmtP p)) ?_) ?_) ?_) rfl
    · refine en_lcC (xs := cs) (ed_var ?_) (by omega) rfl (fun _ _ => et_yes) ?_
      · rfl
      intro p hp _
      have h1 := hbd p hp
      have l1 := numLen h1.1.1 h1.1.2
      have l2 := numLen h1.2.1 h1.2.2
      have e0 : (Str.empty : Str).length = 0 := rfl
      have e1 : ((".." : Str)).length = 2 := by decide +kernel
      refine ed_fst ⟨_, ed_fmt (ed_var rfl) (numLog h1.1.1 h1.1.2), ?_, _, ed_str, ?_, _, ed_fmt (ed_var rfl) (numLog h1.2.1 h1.2.2), ?_, rfl⟩
      · rw [Str.length_append, sizeLine_eq]; omega
      · rw [Str.length_append, Str.length_append, sizeLine_eq]; omega
      · rw [Str.length_append, Str.length_append, Str.length_append, sizeLine_eq]; omega
    · rw [List.filter_eq_self.mpr (fun _ _ => rfl), List.map_map]; rfl
    · have e1 : ((" " : Str)).length = 1 := by decide +kernel
      rw [List.length_map, e1]
      have := fmt_sum cs hbd
      omega
  · exact sq_cycles rfl (fun z => by rw [hb] at z; cases z) (fun _ => rfl)
local macro_rules | `(tactic| walk_at "rel") => `(tactic| ((with_reducible apply cl_format_cycles) <;> try (walk_at "side")))
def prsK (k : Int) (d : PyData) : PyData := if k = 0 then prs0 d else prs1 d
def rel__law_parsed : List PyData → Rs → Prop := fun ds r => ∃ (k : Int) (d : PyData), ds = [.int k, d] ∧ (k = 0 ∨ k = 1) ∧ (∀ t, d = .str t → t.length ≤ 1000) ∧ r = .ok (prsK k d)
theorem prs0_no {d : PyData} (h : isS d = false) : prs0 d = .str "text" := by
  cases d with
  | str t => cases h
  | _ => rfl
theorem prs1_no {d : PyData} (h : isS d = false) : prs1 d = .str "text" := by
  cases d with
  | str t => cases h
  | _ => rfl
theorem tb_prs {ρ : Rho} {P : Out → Prop} {f i : Nat} {C : Addr} {rel : List PyData → Rs → Prop} {d : PyData} {o : Option PyData} (q : ρ[i]? = some (Sl.dat d)) (hr : rel [d] (orC C o)) (h1 : ∀ x, o = some x → P (.nxt (ρ.set f (.dat x)))) (h2 : o = none → P (.exc C)) :
    TB (fun Z => tAsg (tCallS (PrS rel) (WE Z) (tCons (tVar i) tNil)) (gName f)) ρ P := by
  cases o with
  | some x => exact tb_asg (ea_cons (ed_var q) ea_nil) hr (fun d z => by cases z; exact h1 x rfl) (fun ds z => by cases z) (fun C z => by cases z)
  | none => exact tb_asg (ea_cons (ed_var q) ea_nil) hr (fun d z => by cases z) (fun ds z => by cases z) (fun C z => by cases z; exact h2 rfl)
theorem sc__law_parsed : FnScope ["kind", "text", "found", "caught", "e"] ["kind", "text"] (defScope s__law_parsed) := ⟨rfl, rfl, rfl, by decide +kernel, rfl, by decide +kernel, by decide +kernel⟩
theorem ok__law_parsed (T : TX K mg) : FnOk P w K mg base CX0 5 T.a__law_parsed T.d__law_parsed ["kind", "text"] (PrS rel__law_parsed) := by
  refine T.F__law_parsed.ok sc__law_parsed (fun vs H Q E h => prs_len h (fun ds r z => by obtain ⟨_, _, rfl, _⟩ := z; rfl)) (fun cdv A outer s H vs Q E hr h => ?_)
  obtain ⟨G, ds, r, e, hv, hrel, wsh⟩ := h
  refine ⟨_, (pss_cons (ps_set (i := 2) sc__law_parsed.nd rfl (by first | exact Or.inl rfl | exact Or.inr rfl) pe_non)
      (pss_cons (ps_set (i := 3) sc__law_parsed.nd rfl (by first | exact Or.inl rfl | exact Or.inr rfl) pe_non)
      (pss_cons (ps_try_keep (i := 4) rfl rfl sc__law_parsed.nd rfl rfl ⟨rfl, by decide, .inl T.g_RainError⟩ (fun Z pp xx tk _ => (pss_one (ps_set (i := 2) sc__law_parsed.nd rfl (by first | exact Or.inl rfl | exact Or.inr rfl) (pe_ifExp (pt_cmpR (op_eqK (K := K) rfl hr.units) (pv 0) pe_int (nomark _)) (pe_callS (ok_parse_row T) (hr.mono (by decide)) rfl T.g_parse_row T.F_parse_row.kp T.b_parse_row (fun σ => passAt tk σ) (pa_cons (pv 1) pa_nil)) (pe_callS (ok_parse_cycles T) (hr.mono (by decide)) rfl T.g_parse_cycles T.F_parse_cycles.kp T.b_parse_cycles (fun σ => passAt tk σ) (pa_cons (pv 1) pa_nil)))))) (fun a oe pp hf => (pss_one (ps_set (i := 3) sc__law_parsed.nd rfl (by first | exact Or.inl rfl | exact Or.inr rfl) (pv 4)))))
      (pss_one (ps_ret (pe_ifExp (pt_cmpR op_isA (pv 3) pe_non (nomark _)) (pv 2) (pe_call (ok__law_error T) (hr.mono (by decide)) rfl T.g__law_error T.F__law_error.kp T.b__law_error .nil pass0 (pa_cons (pv 3) pa_nil)))))))), body_ok e hv wsh ?_⟩
  obtain ⟨k, d, rfl, hk, hd, rfl⟩ := hrel
  show SO _ _ [.dat (.int k), .dat d, .un, .un, .un] _
  apply sq_asg ed_non
  apply sq_asg ed_non
  show SO _ _ [.dat (.int k), .dat d, .dat .none, .dat .none, .un] _
  refine sq_try (tb := fun Z => tAsg (tIf (tTest (tOp (rEqD K) (tVar 0) (tC (V.int 0)))) (tCallS (PrS (rel_parse_row T.C_BadText)) (WE Z) (tCons (tVar 1) tNil)) (tCallS (PrS (rel_parse_cycles T.C_BadText)) (WE Z) (tCons (tVar 1) tNil))) (gName 2)) (ρ := [.dat (.int k), .dat d, .dat .none, .dat .none, .un]) (i := 4) (c := 3)
    (Pb := fun o => o = .nxt [.dat (.int k), .dat d, .dat (prsK k d), .dat .none, .un] ∨ (o = .exc T.C_BadText ∧ prsK k d = .str "text")) ?_ (by simp) (by decide) (fun o h1 ho => ?_) (fun C ho => ?_)
  · refine tb_asgIf (b := decide (k = 0)) (et_test (ed_op (ed_var rfl) ed_int rd_eqI)) (fun hb => ?_) (fun hb => ?_)
    · have hb := of_decide_eq_true hb
      have e : prsK k d = prs0 d := by unfold prsK; rw [if_pos hb]
      rw [e]
      cases hs : isS d with
      | false => exact tb_prs (i := 1) (o := none) rfl ⟨d, rfl, .inr ⟨hs, rfl⟩⟩ (fun x z => by cases z) (fun _ => .inr ⟨rfl, prs0_no hs⟩)
      | true =>
        cases d with
        | str t =>
          refine tb_prs (i := 1) rfl ⟨_, rfl, .inl ⟨t, rfl, hd t rfl, rfl⟩⟩ (fun x z => .inl ?_) (fun z => .inr ⟨rfl, ?_⟩)
          · cases e2 : pRow t with
            | none => rw [e2] at z; cases z
            | some r =>
              rw [e2] at z; cases z
              rw [prs0_some e2]; rfl
          · cases e2 : pRow t with
            | some r => rw [e2] at z; cases z
            | none => exact prs0_none e2
        | _ => cases hs
    · have hb := of_decide_eq_false hb
      have e : prsK k d = prs1 d := by unfold prsK; rw [if_neg hb]
      rw [e]
      cases hs : isS d with
      | false => exact tb_prs (i := 1) (o := none) rfl ⟨d, rfl, .inr ⟨hs, rfl⟩⟩ (fun x z => by cases z) (fun _ => .inr ⟨rfl, prs1_no hs⟩)
      | true =>
        cases d with
        | str t =>
          refine tb_prs (i := 1) rfl ⟨_, rfl, .inl ⟨t, rfl, hd t rfl, rfl⟩⟩ (fun x z => .inl ?_) (fun z => .inr ⟨rfl, ?_⟩)
          · cases e2 : pCyc t with
            | none => rw [e2] at z; cases z
            | some r =>
              rw [e2] at z; cases z
              rw [prs1_some e2]; rfl
          · cases e2 : pCyc t with
            | some r => rw [e2] at z; cases z
            | none => exact prs1_none e2
        | _ => cases hs
  · rcases ho with rfl | ⟨rfl, _⟩
    · refine so_ret (d := prsK k d) (ed_is (ed_if (b := true) (d1 := prsK k d) (d2 := .none) ?_ (fun _ => ed_var rfl) (fun z => by cases z)) rfl) rfl
      exact et_test (ed_op (ed_var rfl) ed_non rd_isN)
    · exact absurd rfl (h1 _)
  · rcases ho with z | ⟨z, hq⟩
    · cases z
    · cases z
      refine ⟨T.e6_BadText.m, fun a => so_retErr (x := "text") rfl (by simp [TX.Es]) ?_⟩
      show _ = _
      rw [hq]
def rel__law_rejected : List PyData → Rs → Prop := fun ds r => ds = [] ∧ r = .ok (.bool true)
theorem sc__law_rejected : FnScope ["odd", "bad"] [] (defScope s__law_rejected) := ⟨rfl, rfl, rfl, by decide +kernel, rfl, by decide +kernel, by decide +kernel⟩
theorem ok__law_rejected (T : TX K mg) : FnOk P w K mg base CX0 6 T.a__law_rejected T.d__law_rejected [] (PrS rel__law_rejected) := by
  refine T.F__law_rejected.ok sc__law_rejected (fun vs H Q E h => prs_len h (fun ds r z => by obtain ⟨rfl, _⟩ := z; rfl)) (fun cdv A outer s H vs Q E hr h => ?_)
  obtain ⟨G, ds, r, e, hv, hrel, wsh⟩ := h
  refine ⟨_, (pss_cons (ps_set (i := 0) sc__law_rejected.nd rfl (by first | exact Or.inl rfl | exact Or.inr rfl) (pe_lst (pa_cons pe_non (pa_cons pe_int (pa_cons pe_str (pa_cons pe_str (pa_cons pe_str (pa_cons pe_str (pa_cons pe_str (pa_cons pe_str (pa_cons pe_str (pa_cons pe_str (pa_cons pe_str (pa_cons pe_str (pa_cons pe_str (pa_cons pe_str (pa_cons pe_str (pa_cons pe_str (pa_cons (pe_joinK (K := K) rfl pe_str (pe_op op_mulA (pe_lst (pa_cons pe_str pa_nil)) pe_int)) pa_nil)))))))))))))))))))
      (pss_cons (ps_if (PW.pt (pw_or (pt_cmpR (op_neK (K := K) rfl hr.units) (pe_lc (own := [("bad", 1)]) (g := gName 1) (tt := tYes) (by rfl) sc__law_rejected.nd (pi_listK (K := K) rfl (pv 0)) (blkOk_by (N := ["odd", "bad"]) (sc := defScope s__law_rejected) (own := [("bad", 1)]) (by decide +kernel)) (fun _ _ _ _ _ => pg_name (i := 1) sc__law_rejected.nd rfl (Or.inl rfl)) (fun _ _ _ _ _ => pts_nil) (fun _ _ _ _ _ => (pe_call (ok__law_parsed T) (hr.mono (by decide)) rfl T.g__law_parsed T.F__law_parsed.kp T.b__law_parsed .nil pass0 (pa_cons pe_int (pa_cons (pv 1) pa_nil))))) (pe_op op_mulA (pe_lst (pa_cons pe_str pa_nil)) pe_int) (nomark _)) (pw_or1 (pt_cmpR (op_neK (K := K) rfl hr.units) (pe_call (ok__law_parsed T) (hr.mono (by decide)) rfl T.g__law_parsed T.F__law_parsed.kp T.b__law_parsed .nil pass0 (pa_cons pe_int (pa_cons pe_str pa_nil))) (pe_lst (pa_cons pe_int (pa_cons (pe_op op_sub pe_int pe_int) (pa_cons pe_int pa_nil)))) (nomark _))))) (pss_one (ps_ret pe_bl)) pss_nil)
      (pss_cons (ps_set (i := 0) sc__law_rejected.nd rfl (by first | exact Or.inl rfl | exact Or.inr rfl) (pe_lst (pa_cons pe_non (pa_cons pe_int (pa_cons pe_str (pa_cons pe_str (pa_cons pe_str (pa_cons pe_str (pa_cons pe_str (pa_cons pe_str (pa_cons pe_str (pa_cons pe_str (pa_cons pe_str (pa_cons pe_str (pa_cons pe_str (pa_cons pe_str (pa_cons pe_str (pa_cons pe_str (pa_cons pe_str (pa_cons pe_str (pa_cons pe_str (pa_cons (pe_joinK (K := K) rfl pe_str (pe_op op_mulA (pe_lst (pa_cons pe_str pa_nil)) pe_int)) pa_nil))))))))))))))))))))))
      (pss_one (ps_ret (pe_and (pe_cmpR (op_eqK (K := K) rfl hr.units) (pe_lc (own := [("bad", 1)]) (g := gName 1) (tt := tYes) (by rfl) sc__law_rejected.nd (pi_listK (K := K) rfl (pv 0)) (blkOk_by (N := ["odd", "bad"]) (sc := defScope s__law_rejected) (own := [("bad", 1)]) (by decide +kernel)) (fun _ _ _ _ _ => pg_name (i := 1) sc__law_rejected.nd rfl (Or.inl rfl)) (fun _ _ _ _ _ => pts_nil) (fun _ _ _ _ _ => (pe_call (ok__law_parsed T) (hr.mono (by decide)) rfl T.g__law_parsed T.F__law_parsed.kp T.b__law_parsed .nil pass0 (pa_cons pe_int (pa_cons (pv 1) pa_nil))))) (pe_op op_mulA (pe_lst (pa_cons pe_str pa_nil)) pe_int) (nomark _)) (pe_one (pe_cmpR (op_eqK (K := K) rfl hr.units) (pe_call (ok__law_parsed T) (hr.mono (by decide)) rfl T.g__law_parsed T.F__law_parsed.kp T.b__law_parsed .nil pass0 (pa_cons pe_int (pa_cons pe_str pa_nil))) (pe_lst (pa_cons (pe_tup (pa_cons (pe_op op_sub pe_int pe_int) (pa_cons pe_int pa_nil))) (pa_cons (pe_tup (pa_cons (pe_op op_sub pe_int pe_int) (pa_cons pe_int pa_nil))) (pa_cons (pe_tup (pa_cons pe_int (pa_cons pe_int pa_nil))) pa_nil)))) (nomark _))))))))), body_ok e hv wsh ?_⟩
  obtain ⟨rfl, rfl⟩ := hrel
  show SO _ _ [.un, .un] _
  apply sq_asg (d := .list odds0)
  · exact ed_is (ed_lst (ea_cons ed_non (ea_cons ed_int (ea_cons ed_str (ea_cons ed_str (ea_cons ed_str (ea_cons ed_str (ea_cons ed_str (ea_cons ed_str (ea_cons ed_str (ea_cons ed_str (ea_cons ed_str (ea_cons ed_str (ea_cons ed_str (ea_cons ed_str (ea_cons ed_str (ea_cons ed_str (ea_cons (ed_join (ys := List.replicate 25 "0") ed_str (ed_is (ed_op (ed_lst (ea_cons ed_str ea_nil) (by simp)) ed_int (rd_rep (K := K) (by decide) (by decide) (by simp))) rfl) (by decide +kernel)) ea_nil))))))))))))))))) (by simp)) rfl
  apply sq_no
  · refine et_or (a := false) (b := false) (et_is (et_test (ed_op (ed_is (d1 := .list ((List.replicate 17 ("text" : Str)).map PyData.str)) (ed_lcL (xs := odds0) (en := fun d => d) (f := fun _ => true) (e := fun d => prsK 0 d) (ed_is (ed_var rfl) (by rw [List.map_id'])) (by decide) rfl (fun _ _ => et_yes) (fun d hd _ => ed_call (ea_cons ed_int (ea_cons (ed_var rfl) ea_nil)) ⟨0, d, rfl, by decide, okL_all odd0_ok d hd, rfl⟩) rfl) (by rw [List.filter_eq_self.mpr (fun _ _ => rfl)]; exact congrArg PyData.list (texts_all (f := prs0) odd0_no))) (ed_is (d1 := .list ((List.replicate 17 ("text" : Str)).map PyData.str)) (ed_op (ed_lst (ea_cons ed_str ea_nil) (by simp)) ed_int (rd_rep (K := K) (by decide) (by decide) (by simp))) rfl) (rd_neSts (by decide +kernel)))) rfl) (fun _ => ?_)
    exact et_is (et_test (ed_op (ed_is (d1 := dI [5, -99, 0]) (ed_call (ea_cons ed_int (ea_cons ed_str ea_nil)) ⟨0, .str "5 -99 0", rfl, by decide, (fun t z => by cases z; decide +kernel), rfl⟩) odd0_is) (ed_is (d1 := dI [5, (-99), 0]) (ed_lst (ea_cons ed_int (ea_cons (ed_is (d1 := .int (-99)) (ed_op ed_int ed_int rd_i) rfl) (ea_cons ed_int ea_nil))) (by simp)) rfl) rd_neL)) rfl
  apply sq_asg (d := .list odds1)
  · exact ed_is (ed_lst (ea_cons ed_non (ea_cons ed_int (ea_cons ed_str (ea_cons ed_str (ea_cons ed_str (ea_cons ed_str (ea_cons ed_str (ea_cons ed_str (ea_cons ed_str (ea_cons ed_str (ea_cons ed_str (ea_cons ed_str (ea_cons ed_str (ea_cons ed_str (ea_cons ed_str (ea_cons ed_str (ea_cons ed_str (ea_cons ed_str (ea_cons ed_str (ea_cons (ed_join (ys := List.replicate 11 "0..1") ed_str (ed_is (ed_op (ed_lst (ea_cons ed_str ea_nil) (by simp)) ed_int (rd_rep (K := K) (by decide) (by decide) (by simp))) rfl) (by decide +kernel)) ea_nil)))))))))))))))))))) (by simp)) rfl
  refine so_ret (d := .bool true) (ed_is (ed_and (a := true) (b := true) (ed_is (ed_op (ed_is (d1 := .list ((List.replicate 20 ("text" : Str)).map PyData.str)) (ed_lcL (xs := odds1) (en := fun d => d) (f := fun _ => true) (e := fun d => prsK 1 d) (ed_is (ed_var rfl) (by rw [List.map_id'])) (by decide) rfl (fun _ _ => et_yes) (fun d hd _ => ed_call (ea_cons ed_int (ea_cons (ed_var rfl) ea_nil)) ⟨1, d, rfl, by decide, okL_all odd1_ok d hd, rfl⟩) rfl) (by rw [List.filter_eq_self.mpr (fun _ _ => rfl)]; exact congrArg PyData.list (texts_all (f := prs1) odd1_no))) (ed_is (d1 := .list ((List.replicate 20 ("text" : Str)).map PyData.str)) (ed_op (ed_lst (ea_cons ed_str ea_nil) (by simp)) ed_int (rd_rep (K := K) (by decide) (by decide) (by simp))) rfl) (rd_eqSts (by decide +kernel))) rfl) (fun _ => ?_)) rfl) rfl
  exact ed_is (ed_op (ed_is (d1 := dC [(-2, 4), (-2, 4), (0, 1)]) (ed_call (ea_cons ed_int (ea_cons ed_str ea_nil)) ⟨1, .str "-2..4 -2..4 0..1", rfl, by decide, (fun t z => by cases z; decide +kernel), rfl⟩) odd1_is) (ed_is (d1 := dC [(-2, 4), (-2, 4), (0, 1)]) (ed_lst (ea_cons (ed_tup (ea_cons (ed_is (d1 := .int (-2)) (ed_op ed_int ed_int rd_i) rfl) (ea_cons ed_int ea_nil)) (by simp)) (ea_cons (ed_tup (ea_cons (ed_is (d1 := .int (-2)) (ed_op ed_int ed_int rd_i) rfl) (ea_cons ed_int ea_nil)) (by simp)) (ea_cons (ed_tup (ea_cons ed_int (ea_cons ed_int ea_nil)) (by simp)) ea_nil))) (by simp)) rfl) rd_eqC) rfl
theorem cyOk13 {cs : List (Int × Int)} {L : List Int} (hl : cs.length ≤ 10) (hs : srtC cs = cs) (hb : ∀ x ∈ L, -50 ≤ x ∧ x ≤ 50) (hL : L ≠ []) (h : ∀ p ∈ cs, lmin L ≤ p.1 ∧ p.1 < p.2 ∧ p.2 ≤ lmax L) : CyOk cs := ⟨hl, fun p hp => by
  have h1 := hb _ (lmin_mem hL)
  have h2 := hb _ (lmax_mem hL)
  have h3 := h p hp
  omega, hs⟩
def marks : List Str := ["0", "1", "9", " ", "-", ".", "x", ""]
theorem marks_len : ∀ m ∈ marks, m.length ≤ 1 := by decide +kernel
theorem sc_law : FnScope ["script", "draws", "row", "some", "text", "words", "turn", "kind", "own", "at", "mark", "other", "found"] ["script"] (defScope s_law) := ⟨rfl, rfl, rfl, by decide +kernel, rfl, by decide +kernel, by decide +kernel⟩
theorem ok_law (T : TX K mg) : FnOk P w K mg base CX0 7 T.a_law T.d_law ["script"] (sp_law K) := by
  refine T.F_law.ok sc_law (fun vs H Q E h => ?_) (fun cdv A outer s H vs Q E hr h => ?_)
  · obtain ⟨a, ns, rfl, _⟩ := h
    rfl
  · obtain ⟨a, ns0, rfl, hS, hlen0, q⟩ := h
    refine ⟨_, (pss_cons (ps_set (i := 1) sc_law.nd rfl (by first | exact Or.inl rfl | exact Or.inr rfl) (pe_call (ok__law_start T) (hr.mono (by decide)) rfl T.g__law_start T.F__law_start.kp T.b__law_start .nil pass0 (pa_cons (pv 0) pa_nil)))
      (pss_cons (ps_set (i := 2) sc_law.nd rfl (by first | exact Or.inl rfl | exact Or.inr rfl) (pe_call (ok__law_row T) (hr.mono (by decide)) rfl T.g__law_row T.F__law_row.kp T.b__law_row .nil pass0 (pa_cons (pv 1) (pa_cons pe_int pa_nil))))
      (pss_cons (ps_set (i := 3) sc_law.nd rfl (by first | exact Or.inl rfl | exact Or.inr rfl) (pe_call (ok__law_cycles T) (hr.mono (by decide)) rfl T.g__law_cycles T.F__law_cycles.kp T.b__law_cycles .nil pass0 (pa_cons (pv 1) (pa_cons (pv 2) (pa_cons pe_int pa_nil)))))
      (pss_cons (ps_par (i := 4) (j := 5) (by rfl) sc_law.nd rfl rfl (by decide) rfl rfl (pa_cons (pe_call (ok_format_row T) (hr.mono (by decide)) rfl T.g_format_row T.F_format_row.kp T.b_format_row .nil passL (pa_cons (pv 2) pa_nil)) (pa_cons (pe_call (ok_format_cycles T) (hr.mono (by decide)) rfl T.g_format_cycles T.F_format_cycles.kp T.b_format_cycles .nil passL (pa_cons (pv 3) pa_nil)) pa_nil)) (by rfl))
      (pss_cons (ps_if (PW.pt (pw_or (pt_cmpR op_ne (pv 4) (pe_call (ok__law_written T) (hr.mono (by decide)) rfl T.g__law_written T.F__law_written.kp T.b__law_written .nil pass0 (pa_cons pe_int (pa_cons (pv 2) pa_nil))) (nomark _)) (pw_or (pt_cmpR (op_neK (K := K) rfl hr.units) (pe_call (ok_parse_row T) (hr.mono (by decide)) rfl T.g_parse_row T.F_parse_row.kp T.b_parse_row .nil passL (pa_cons (pv 4) pa_nil)) (pv 2) (nomark _)) (pw_or (pt_cmpR op_ne (pv 5) (pe_call (ok__law_written T) (hr.mono (by decide)) rfl T.g__law_written T.F__law_written.kp T.b__law_written .nil pass0 (pa_cons pe_int (pa_cons (pv 3) pa_nil))) (nomark _)) (pw_or1 (pt_cmpR (op_neK (K := K) rfl hr.units) (pe_call (ok_parse_cycles T) (hr.mono (by decide)) rfl T.g_parse_cycles T.F_parse_cycles.kp T.b_parse_cycles .nil passL (pa_cons (pv 5) pa_nil)) (pv 3) (nomark _))))))) (pss_one (ps_ret pe_bl)) pss_nil)
      (pss_cons (ps_for PassesOwn.never rfl (pi_range1 (by rfl) T.z_range (pa_cons pe_int pa_nil)) (pg_name (i := 6) sc_law.nd rfl (by first | exact Or.inl rfl | exact Or.inr rfl)) (pss_one (ps_for PassesOwn.never rfl (pi_listK (K := K) rfl (pe_lst (pa_cons pe_int (pa_cons pe_int pa_nil)))) (pg_name (i := 7) sc_law.nd rfl (by first | exact Or.inl rfl | exact Or.inr rfl)) (pss_cons (ps_set (i := 8) sc_law.nd rfl (by first | exact Or.inl rfl | exact Or.inr rfl) (pe_ix (ix_seqK (K := K) rfl) (pe_lst (pa_cons (pv 4) (pa_cons (pv 5) pa_nil))) (pv 7) (fun _ _ => rfl)))
      (pss_cons (ps_set (i := 9) sc_law.nd rfl (by first | exact Or.inl rfl | exact Or.inr rfl) (pe_call (ok__law_draw T) (hr.mono (by decide)) rfl T.g__law_draw T.F__law_draw.kp T.b__law_draw .nil pass0 (pa_cons (pv 1) (pa_cons (pe_op (op_addK (K := K) rfl) (pe_callB (cb_lenK (K := K) rfl) (by rfl) T.z_len (by decide +kernel) (pa_cons (pv 8) pa_nil)) pe_int) pa_nil))))
      (pss_cons (ps_set (i := 10) sc_law.nd rfl (by first | exact Or.inl rfl | exact Or.inr rfl) (pe_call (ok__law_pick T) (hr.mono (by decide)) rfl T.g__law_pick T.F__law_pick.kp T.b__law_pick .nil pass0 (pa_cons (pv 1) (pa_cons (pe_lst (pa_cons pe_str (pa_cons pe_str (pa_cons pe_str (pa_cons pe_str (pa_cons pe_str (pa_cons pe_str (pa_cons pe_str (pa_cons pe_str pa_nil))))))))) pa_nil))))
      (pss_cons (ps_set (i := 11) sc_law.nd rfl (by first | exact Or.inl rfl | exact Or.inr rfl) (pe_call (ok__law_pick T) (hr.mono (by decide)) rfl T.g__law_pick T.F__law_pick.kp T.b__law_pick .nil pass0 (pa_cons (pv 1) (pa_cons (pe_lst (pa_cons (pe_op (op_addK (K := K) rfl) (pe_op (op_addK (K := K) rfl) (pe_slice C8.sl_txt (pv 8) po_none (po_some (pv 9))) (pv 10)) (pe_slice C8.sl_txt (pv 8) (po_some (pe_op (op_addK (K := K) rfl) (pv 9) pe_int)) po_none)) (pa_cons (pe_op (op_addK (K := K) rfl) (pe_op (op_addK (K := K) rfl) (pe_slice C8.sl_txt (pv 8) po_none (po_some (pv 9))) (pv 10)) (pe_slice C8.sl_txt (pv 8) (po_some (pv 9)) po_none)) pa_nil))) pa_nil))))
      (pss_cons (ps_set (i := 12) sc_law.nd rfl (by first | exact Or.inl rfl | exact Or.inr rfl) (pe_call (ok__law_parsed T) (hr.mono (by decide)) rfl T.g__law_parsed T.F__law_parsed.kp T.b__law_parsed .nil pass0 (pa_cons (pv 7) (pa_cons (pv 11) pa_nil))))
      (pss_one (ps_if (PW.pt (pw_and (pt_cmpR (op_neK (K := K) rfl hr.units) (pv 12) pe_str (nomark _)) (pw_and1 (pt_cmpR op_ne (pv 11) (pe_call (ok__law_written T) (hr.mono (by decide)) rfl T.g__law_written T.F__law_written.kp T.b__law_written .nil pass0 (pa_cons (pv 7) (pa_cons (pv 12) pa_nil))) (nomark _))))) (pss_one (ps_ret pe_bl)) pss_nil))))))))))
      (pss_one (ps_ret (pe_and (pe_call0 (ok__law_rejected T) (hr.mono (by decide)) rfl T.g__law_rejected T.F__law_rejected.kp T.b__law_rejected .nil pass0) (pe_and (pe_cmpR op_eq (pe_call (ok_format_cycles T) (hr.mono (by decide)) rfl T.g_format_cycles T.F_format_cycles.kp T.b_format_cycles .nil passL (pa_cons (pe_lst pa_nil) pa_nil)) pe_str (nomark _)) (pe_one (pe_cmpR (op_eqK (K := K) rfl hr.units) (pe_call (ok__law_parsed T) (hr.mono (by decide)) rfl T.g__law_parsed T.F__law_parsed.kp T.b__law_parsed .nil pass0 (pa_cons pe_int (pa_cons pe_str pa_nil))) (pe_lst pa_nil) (nomark _))))))))))))), law_go hS hlen0 (by decide) q fun v h => ?_⟩
    show SO _ _ [.un, .prv (DrawR v h), .un, .un, .un, .un, .un, .un, .un, .un, .un, .un, .un] _
    refine sq_asgX (ex_row rfl ed_int (by omega) (by omega)) ?_
    rintro _ ⟨row, rfl, hrn, hrl, hrb⟩
    refine sq_asgX (ex_lcycles rfl (ed_var rfl) ed_int hrn (by omega) (fun x hx => by have := hrb x hx; omega) (by omega) (by omega)) ?_
    rintro _ ⟨cs, rfl, hcl, hcs, hcb⟩
    have okR : RowOk row := ⟨hrn, by omega, fun x hx => by have := hrb x hx; omega⟩
    have okC : CyOk cs := cyOk13 (by omega) hcs hrb hrn hcb
    have hlR := fmtR_len okR
    have hlC := fmtC_len okC
    refine sq_par (a := .str (fmtR row)) (b := .str (fmtC cs)) (ea_cons (ed_call (ea_cons (ed_var rfl) ea_nil) (cl_format_row okR)) (ea_cons (ed_call (ea_cons (ed_var rfl) ea_nil) (cl_format_cycles okC)) ea_nil)) ?_
    show SO _ _ [.un, .prv (DrawR v h), .dat (dI row), .dat (dC cs), .dat (.str (fmtR row)), .dat (.str (fmtC cs)), .un, .un, .un, .un, .un, .un, .un] _
    apply sq_no
    · refine et_or (a := false) (b := false) (et_is (et_test (ed_op (ed_var rfl) (ed_call (ea_cons ed_int (ea_cons (ed_var rfl) ea_nil)) (.inl ⟨row, rfl, okR, rfl⟩)) rd_neX)) (by simp)) (fun _ => ?_)
      refine et_or (a := false) (b := false) (et_is (et_test (ed_op (ed_call (d := dI row) (ea_cons (ed_var rfl) ea_nil) ⟨_, rfl, .inl ⟨fmtR row, rfl, by omega, by rw [pRow_fmt okR]; rfl⟩⟩) (ed_var rfl) rd_neL)) (by simp)) (fun _ => ?_)
      refine et_or (a := false) (b := false) (et_is (et_test (ed_op (ed_var rfl) (ed_call (ea_cons ed_int (ea_cons (ed_var rfl) ea_nil)) (.inr ⟨cs, rfl, okC, rfl⟩)) rd_neX)) (by simp)) (fun _ => ?_)
      exact et_is (et_test (ed_op (ed_call (d := dC cs) (ea_cons (ed_var rfl) ea_nil) ⟨_, rfl, .inl ⟨fmtC cs, rfl, by omega, by rw [pCyc_fmt okC]; rfl⟩⟩) (ed_var rfl) rd_neC)) (by simp)
    refine sq_forR1 (n := 8) (ea_cons ed_int ea_nil) (by decide) (by decide) (I := fun k ρ' => ∃ (v6 v7 v8 v9 v10 v11 v12 : Sl), ρ' = [.un, .prv (DrawR v h), .dat (dI row), .dat (dC cs), .dat (.str (fmtR row)), .dat (.str (fmtC cs)), v6, v7, v8, v9, v10, v11, v12]) ⟨_, _, _, _, _, _, _, rfl⟩ ?_ ?_
    · rintro k _ hk ⟨v6, v7, v8, v9, v10, v11, v12, rfl⟩
      refine ⟨_, ts_name, ?_⟩
      show SO _ _ [.un, .prv (DrawR v h), .dat (dI row), .dat (dC cs), .dat (.str (fmtR row)), .dat (.str (fmtC cs)), .dat (.int (k : Int)), v7, v8, v9, v10, v11, v12] _
      refine so_forL (xs := [(0 : Int), 1]) (en := PyData.int) (ed_lst (ea_cons ed_int (ea_cons ed_int ea_nil)) (by simp)) (fun n ρ' => ∃ (v7 v8 v9 v10 v11 v12 : Sl), ρ' = [.un, .prv (DrawR v h), .dat (dI row), .dat (dC cs), .dat (.str (fmtR row)), .dat (.str (fmtC cs)), .dat (.int (k : Int)), v7, v8, v9, v10, v11, v12]) ⟨_, _, _, _, _, _, rfl⟩ ?_ ?_
      · rintro n kd _ hkd ⟨v7, v8, v9, v10, v11, v12, rfl⟩
        have hkd : kd = 0 ∨ kd = 1 := by simpa using List.mem_of_getElem? hkd
        refine ⟨_, ts_name, ?_⟩
        show SO _ _ [.un, .prv (DrawR v h), .dat (dI row), .dat (dC cs), .dat (.str (fmtR row)), .dat (.str (fmtC cs)), .dat (.int (k : Int)), .dat (.int kd), v8, v9, v10, v11, v12] _
        have hown : ∃ own : Str, own.length ≤ 100 ∧ ED (tOp (rIx K) (tLst (tCons (tVar 4) (tCons (tVar 5) tNil))) (tVar 7)) [.un, .prv (DrawR v h), .dat (dI row), .dat (dC cs), .dat (.str (fmtR row)), .dat (.str (fmtC cs)), .dat (.int (k : Int)), .dat (.int kd), v8, v9, v10, v11, v12] (.str own) := by
          rcases hkd with rfl | rfl
          · exact ⟨fmtR row, by omega, ed_op (ed_lst (ea_cons (ed_var rfl) (ea_cons (ed_var rfl) ea_nil)) (by simp)) (ed_var rfl) (rd_ix rfl)⟩
          · exact ⟨fmtC cs, by omega, ed_op (ed_lst (ea_cons (ed_var rfl) (ea_cons (ed_var rfl) ea_nil)) (by simp)) (ed_var rfl) (rd_ix rfl)⟩
        obtain ⟨own, hol, hown⟩ := hown
        apply sq_asg hown
        show SO _ _ [.un, .prv (DrawR v h), .dat (dI row), .dat (dC cs), .dat (.str (fmtR row)), .dat (.str (fmtC cs)), .dat (.int (k : Int)), .dat (.int kd), .dat (.str own), v9, v10, v11, v12] _
        refine sq_asgX (ex_draw rfl (ed_op (ed_cb (ea_cons (ed_var rfl) ea_nil) (rc_lenS (by omega))) ed_int rd_add) (by omega) (by omega)) ?_
        rintro _ ⟨a, rfl, ha1, ha2⟩
        show SO _ _ [.un, .prv (DrawR v h), .dat (dI row), .dat (dC cs), .dat (.str (fmtR row)), .dat (.str (fmtC cs)), .dat (.int (k : Int)), .dat (.int kd), .dat (.str own), .dat (.int a), v10, v11, v12] _
        refine sq_asgX (P := fun d => ∃ m : Str, d = .str m ∧ m.length ≤ 1) (ex_call (PA := (· = [PyData.list (marks.map PyData.str)])) rfl (exa_ea (ea_cons (ed_is (ed_lst (ea_cons ed_str (ea_cons ed_str (ea_cons ed_str (ea_cons ed_str (ea_cons ed_str (ea_cons ed_str (ea_cons ed_str (ea_cons ed_str ea_nil)))))))) (by simp)) rfl) ea_nil)) ?_) ?_
        · rintro _ rfl
          refine ⟨_, ⟨_, rfl, ⟨by simp [marks], by simp [marks]⟩, rfl⟩, fun d z => ?_⟩
          obtain ⟨m, hm, rfl⟩ := List.mem_map.mp z
          exact ⟨m, rfl, marks_len m hm⟩
        rintro _ ⟨m, rfl, hm⟩
        show SO _ _ [.un, .prv (DrawR v h), .dat (dI row), .dat (dC cs), .dat (.str (fmtR row)), .dat (.str (fmtC cs)), .dat (.int (k : Int)), .dat (.int kd), .dat (.str own), .dat (.int a), .dat (.str m), v11, v12] _
        have s1 := sl_to (z := own) ha1
        have s2 := sl_from (z := own) ha1
        have s3 := sl_from (z := own) (i := a + 1) (by omega)
        refine sq_asgX (P := fun d => ∃ o : Str, d = .str o ∧ o.length ≤ 1000) (ex_call (PA := (· = [PyData.list [.str ((Txt.slice own none (some a) ++ m) ++ Txt.slice own (some (a + 1)) none), .str ((Txt.slice own none (some a) ++ m) ++ Txt.slice own (some a) none)]])) rfl (exa_ea (ea_cons (ed_lst (ea_cons ?_ (ea_cons ?_ ea_nil)) (by simp)) ea_nil)) ?_) ?_
        · exact ed_op (ed_op (ed_slS (ed_var rfl) (by omega) eo_none (eo_some (ed_var rfl))) (ed_var rfl) (rd_addS (by omega))) (ed_slS (ed_var rfl) (by omega) (eo_some (ed_op (ed_var rfl) ed_int rd_add)) eo_none) (rd_addS (by rw [Str.length_append]; omega))
        · exact ed_op (ed_op (ed_slS (ed_var rfl) (by omega) eo_none (eo_some (ed_var rfl))) (ed_var rfl) (rd_addS (by omega))) (ed_slS (ed_var rfl) (by omega) (eo_some (ed_var rfl)) eo_none) (rd_addS (by rw [Str.length_append]; omega))
        · rintro _ rfl
          refine ⟨_, ⟨_, rfl, ⟨by simp, by simp⟩, rfl⟩, fun d z => ?_⟩
          simp only [List.mem_cons, List.not_mem_nil, or_false] at z
          rcases z with rfl | rfl
          · exact ⟨_, rfl, by rw [Str.length_append, Str.length_append]; omega⟩
          · exact ⟨_, rfl, by rw [Str.length_append, Str.length_append]; omega⟩
        rintro _ ⟨o, rfl, ho⟩
        show SO _ _ [.un, .prv (DrawR v h), .dat (dI row), .dat (dC cs), .dat (.str (fmtR row)), .dat (.str (fmtC cs)), .dat (.int (k : Int)), .dat (.int kd), .dat (.str own), .dat (.int a), .dat (.str m), .dat (.str o), v12] _
        apply sq_asg (d := prsK kd (.str o))
        · exact ed_call (ea_cons (ed_var rfl) (ea_cons (ed_var rfl) ea_nil)) ⟨kd, .str o, rfl, hkd, (fun t z => by cases z; exact ho), rfl⟩
        show SO _ _ [.un, .prv (DrawR v h), .dat (dI row), .dat (dC cs), .dat (.str (fmtR row)), .dat (.str (fmtC cs)), .dat (.int (k : Int)), .dat (.int kd), .dat (.str own), .dat (.int a), .dat (.str m), .dat (.str o), .dat (prsK kd (.str o))] _
        refine so_if (b := false) ?_ (fun z => by cases z) (fun _ => so_next ⟨_, _, _, _, _, _, rfl⟩)
        have tok : PyData.strOk "text" = true := by decide +kernel
        rcases hkd with rfl | rfl
        · cases e : pRow o with
          | none =>
            have e2 : prsK 0 (.str o) = .str "text" := prs0_none e
            rw [e2]
            exact et_and (a := false) (b := false) (et_is (et_test (ed_op (ed_var rfl) ed_str (rd_neS tok tok))) rfl) (fun z => by cases z)
          | some r =>
            have e2 : prsK 0 (.str o) = dI r := prs0_some e
            obtain ⟨e3, hr⟩ := pRow_some e
            rw [e2]
            refine et_and (a := true) (b := false) (et_is (et_test (ed_op (ed_var rfl) ed_str (rd_is (rd_ne (n := 1) (m := 0) (pl_dI r) (pl_str tok)) (d1 := .bool true) ?_))) rfl) (fun _ => ?_)
            · simp [PyData.eqv]
            · exact et_is (et_test (ed_op (ed_var rfl) (ed_call (ea_cons (ed_var rfl) (ea_cons (ed_var rfl) ea_nil)) (.inl ⟨r, rfl, hr, rfl⟩)) rd_neX)) (by rw [e3]; simp)
        · cases e : pCyc o with
          | none =>
            have e2 : prsK 1 (.str o) = .str "text" := prs1_none e
            rw [e2]
            exact et_and (a := false) (b := false) (et_is (et_test (ed_op (ed_var rfl) ed_str (rd_neS tok tok))) rfl) (fun z => by cases z)
          | some r =>
            have e2 : prsK 1 (.str o) = dC r := prs1_some e
            obtain ⟨e3, hr⟩ := pCyc_some e
            rw [e2]
            refine et_and (a := true) (b := false) (et_is (et_test (ed_op (ed_var rfl) ed_str (rd_is (rd_ne (n := 2) (m := 0) (pl_dC r) (pl_str tok)) (d1 := .bool true) ?_))) rfl) (fun _ => ?_)
            · simp [PyData.eqv]
            · exact et_is (et_test (ed_op (ed_var rfl) (ed_call (ea_cons (ed_var rfl) (ea_cons (ed_var rfl) ea_nil)) (.inr ⟨r, rfl, hr, rfl⟩)) rd_neX)) (by rw [e3]; simp)
      · rintro _ ⟨v7, v8, v9, v10, v11, v12, rfl⟩
        exact ⟨_, _, _, _, _, _, _, rfl⟩
    · rintro _ ⟨v6, v7, v8, v9, v10, v11, v12, rfl⟩
      have okN : CyOk [] := ⟨by simp, (fun p hp => nomatch hp), rfl⟩
      refine so_ret (d := .bool true) (ed_is (ed_and (a := true) (b := true) (ed_call ea_nil ⟨rfl, rfl⟩) (fun _ => ed_and (a := true) (b := true) (ed_is (ed_op (ed_call (ea_cons (ed_is (d1 := dC []) (ed_lst ea_nil (by simp)) rfl) ea_nil) (cl_format_cycles okN)) ed_str rd_eqX) ?_) (fun _ => ?_))) rfl) ⟨_, rfl⟩
      · rw [fmtC_nil]; simp
      · exact ed_is (ed_op (ed_is (d1 := dC []) (ed_call (ea_cons ed_int (ea_cons ed_str ea_nil)) ⟨1, .str "", rfl, by decide, (fun t z => by cases z; decide +kernel), rfl⟩) prs1_nil) (ed_is (d1 := dC []) (ed_lst ea_nil (by simp)) rfl) rd_eqC) rfl
end
theorem all_mk {l : PySem.W.OpenLaw} {w : World} {K : PySem.W.Frag} {h : Heap} {mg : Str → Option Value} {fa : Addr} (X : K.In h) (G : h.Ns mainGlobals mg) (hfa : mg "law" = some (.ref fa))
    {f_is_int : Addr} {od_is_int an_is_int : Option Addr} {sl_is_int : Array (Option Value)} {oc_is_int kV_is_int dc_is_int pm_is_int cd_is_int ct_is_int : Value}
    (a_is_int : PySem.W.nsIn K mainGlobals "is_int" = some (some (.ref f_is_int))) (l_is_int : K.lookup f_is_int = some ⟨oc_is_int, od_is_int, .func (PySem.W.fnOf "is_int" "is_int" (defArgs s_is_int) (defBody s_is_int) (defScope s_is_int) .none kV_is_int dc_is_int pm_is_int an_is_int cd_is_int ct_is_int), sl_is_int⟩) (c_is_int : PySem.W.codeIn K cd_is_int "is_int" = true) (k_is_int : PySem.W.keepIn K (.ref f_is_int) = true)
    {f_is_row : Addr} {od_is_row an_is_row : Option Addr} {sl_is_row : Array (Option Value)} {oc_is_row kV_is_row dc_is_row pm_is_row cd_is_row ct_is_row : Value}
    (a_is_row : PySem.W.nsIn K mainGlobals "is_row" = some (some (.ref f_is_row))) (l_is_row : K.lookup f_is_row = some ⟨oc_is_row, od_is_row, .func (PySem.W.fnOf "is_row" "is_row" (defArgs s_is_row) (defBody s_is_row) (defScope s_is_row) .none kV_is_row dc_is_row pm_is_row an_is_row cd_is_row ct_is_row), sl_is_row⟩) (c_is_row : PySem.W.codeIn K cd_is_row "is_row" = true) (k_is_row : PySem.W.keepIn K (.ref f_is_row) = true)
    {f_check_row : Addr} {od_check_row an_check_row : Option Addr} {sl_check_row : Array (Option Value)} {oc_check_row kV_check_row dc_check_row pm_check_row cd_check_row ct_check_row : Value}
    (a_check_row : PySem.W.nsIn K mainGlobals "check_row" = some (some (.ref f_check_row))) (l_check_row : K.lookup f_check_row = some ⟨oc_check_row, od_check_row, .func (PySem.W.fnOf "check_row" "check_row" (defArgs s_check_row) (defBody s_check_row) (defScope s_check_row) .none kV_check_row dc_check_row pm_check_row an_check_row cd_check_row ct_check_row), sl_check_row⟩) (c_check_row : PySem.W.codeIn K cd_check_row "check_row" = true) (k_check_row : PySem.W.keepIn K (.ref f_check_row) = true)
    {f_is_cycle : Addr} {od_is_cycle an_is_cycle : Option Addr} {sl_is_cycle : Array (Option Value)} {oc_is_cycle kV_is_cycle dc_is_cycle pm_is_cycle cd_is_cycle ct_is_cycle : Value}
    (a_is_cycle : PySem.W.nsIn K mainGlobals "is_cycle" = some (some (.ref f_is_cycle))) (l_is_cycle : K.lookup f_is_cycle = some ⟨oc_is_cycle, od_is_cycle, .func (PySem.W.fnOf "is_cycle" "is_cycle" (defArgs s_is_cycle) (defBody s_is_cycle) (defScope s_is_cycle) .none kV_is_cycle dc_is_cycle pm_is_cycle an_is_cycle cd_is_cycle ct_is_cycle), sl_is_cycle⟩) (c_is_cycle : PySem.W.codeIn K cd_is_cycle "is_cycle" = true) (k_is_cycle : PySem.W.keepIn K (.ref f_is_cycle) = true)
    {f_are_cycles : Addr} {od_are_cycles an_are_cycles : Option Addr} {sl_are_cycles : Array (Option Value)} {oc_are_cycles kV_are_cycles dc_are_cycles pm_are_cycles cd_are_cycles ct_are_cycles : Value}
    (a_are_cycles : PySem.W.nsIn K mainGlobals "are_cycles" = some (some (.ref f_are_cycles))) (l_are_cycles : K.lookup f_are_cycles = some ⟨oc_are_cycles, od_are_cycles, .func (PySem.W.fnOf "are_cycles" "are_cycles" (defArgs s_are_cycles) (defBody s_are_cycles) (defScope s_are_cycles) .none kV_are_cycles dc_are_cycles pm_are_cycles an_are_cycles cd_are_cycles ct_are_cycles), sl_are_cycles⟩) (c_are_cycles : PySem.W.codeIn K cd_are_cycles "are_cycles" = true) (k_are_cycles : PySem.W.keepIn K (.ref f_are_cycles) = true)
    {f_check_cycles : Addr} {od_check_cycles an_check_cycles : Option Addr} {sl_check_cycles : Array (Option Value)} {oc_check_cycles kV_check_cycles dc_check_cycles pm_check_cycles cd_check_cycles ct_check_cycles : Value}
    (a_check_cycles : PySem.W.nsIn K mainGlobals "check_cycles" = some (some (.ref f_check_cycles))) (l_check_cycles : K.lookup f_check_cycles = some ⟨oc_check_cycles, od_check_cycles, .func (PySem.W.fnOf "check_cycles" "check_cycles" (defArgs s_check_cycles) (defBody s_check_cycles) (defScope s_check_cycles) .none kV_check_cycles dc_check_cycles pm_check_cycles an_check_cycles cd_check_cycles ct_check_cycles), sl_check_cycles⟩) (c_check_cycles : PySem.W.codeIn K cd_check_cycles "check_cycles" = true) (k_check_cycles : PySem.W.keepIn K (.ref f_check_cycles) = true)
    {f_parse_number : Addr} {od_parse_number an_parse_number : Option Addr} {sl_parse_number : Array (Option Value)} {oc_parse_number kV_parse_number dc_parse_number pm_parse_number cd_parse_number ct_parse_number : Value}
    (a_parse_number : PySem.W.nsIn K mainGlobals "parse_number" = some (some (.ref f_parse_number))) (l_parse_number : K.lookup f_parse_number = some ⟨oc_parse_number, od_parse_number, .func (PySem.W.fnOf "parse_number" "parse_number" (defArgs s_parse_number) (defBody s_parse_number) (defScope s_parse_number) .none kV_parse_number dc_parse_number pm_parse_number an_parse_number cd_parse_number ct_parse_number), sl_parse_number⟩) (c_parse_number : PySem.W.codeIn K cd_parse_number "parse_number" = true) (k_parse_number : PySem.W.keepIn K (.ref f_parse_number) = true)
    {f_check_text : Addr} {od_check_text an_check_text : Option Addr} {sl_check_text : Array (Option Value)} {oc_check_text kV_check_text dc_check_text pm_check_text cd_check_text ct_check_text : Value}
    (a_check_text : PySem.W.nsIn K mainGlobals "check_text" = some (some (.ref f_check_text))) (l_check_text : K.lookup f_check_text = some ⟨oc_check_text, od_check_text, .func (PySem.W.fnOf "check_text" "check_text" (defArgs s_check_text) (defBody s_check_text) (defScope s_check_text) .none kV_check_text dc_check_text pm_check_text an_check_text cd_check_text ct_check_text), sl_check_text⟩) (c_check_text : PySem.W.codeIn K cd_check_text "check_text" = true) (k_check_text : PySem.W.keepIn K (.ref f_check_text) = true)
    {f_format_row : Addr} {od_format_row an_format_row : Option Addr} {sl_format_row : Array (Option Value)} {oc_format_row kV_format_row dc_format_row pm_format_row cd_format_row ct_format_row : Value}
    (a_format_row : PySem.W.nsIn K mainGlobals "format_row" = some (some (.ref f_format_row))) (l_format_row : K.lookup f_format_row = some ⟨oc_format_row, od_format_row, .func (PySem.W.fnOf "format_row" "format_row" (defArgs s_format_row) (defBody s_format_row) (defScope s_format_row) .none kV_format_row dc_format_row pm_format_row an_format_row cd_format_row ct_format_row), sl_format_row⟩) (c_format_row : PySem.W.codeIn K cd_format_row "format_row" = true) (k_format_row : PySem.W.keepIn K (.ref f_format_row) = true)
    {f_parse_row : Addr} {od_parse_row an_parse_row : Option Addr} {sl_parse_row : Array (Option Value)} {oc_parse_row kV_parse_row dc_parse_row pm_parse_row cd_parse_row ct_parse_row : Value}
    (a_parse_row : PySem.W.nsIn K mainGlobals "parse_row" = some (some (.ref f_parse_row))) (l_parse_row : K.lookup f_parse_row = some ⟨oc_parse_row, od_parse_row, .func (PySem.W.fnOf "parse_row" "parse_row" (defArgs s_parse_row) (defBody s_parse_row) (defScope s_parse_row) .none kV_parse_row dc_parse_row pm_parse_row an_parse_row cd_parse_row ct_parse_row), sl_parse_row⟩) (c_parse_row : PySem.W.codeIn K cd_parse_row "parse_row" = true) (k_parse_row : PySem.W.keepIn K (.ref f_parse_row) = true)
    {f_format_cycles : Addr} {od_format_cycles an_format_cycles : Option Addr} {sl_format_cycles : Array (Option Value)} {oc_format_cycles kV_format_cycles dc_format_cycles pm_format_cycles cd_format_cycles ct_format_cycles : Value}
    (a_format_cycles : PySem.W.nsIn K mainGlobals "format_cycles" = some (some (.ref f_format_cycles))) (l_format_cycles : K.lookup f_format_cycles = some ⟨oc_format_cycles, od_format_cycles, .func (PySem.W.fnOf "format_cycles" "format_cycles" (defArgs s_format_cycles) (defBody s_format_cycles) (defScope s_format_cycles) .none kV_format_cycles dc_format_cycles pm_format_cycles an_format_cycles cd_format_cycles ct_format_cycles), sl_format_cycles⟩) (c_format_cycles : PySem.W.codeIn K cd_format_cycles "format_cycles" = true) (k_format_cycles : PySem.W.keepIn K (.ref f_format_cycles) = true)
    {f_parse_cycles : Addr} {od_parse_cycles an_parse_cycles : Option Addr} {sl_parse_cycles : Array (Option Value)} {oc_parse_cycles kV_parse_cycles dc_parse_cycles pm_parse_cycles cd_parse_cycles ct_parse_cycles : Value}
    (a_parse_cycles : PySem.W.nsIn K mainGlobals "parse_cycles" = some (some (.ref f_parse_cycles))) (l_parse_cycles : K.lookup f_parse_cycles = some ⟨oc_parse_cycles, od_parse_cycles, .func (PySem.W.fnOf "parse_cycles" "parse_cycles" (defArgs s_parse_cycles) (defBody s_parse_cycles) (defScope s_parse_cycles) .none kV_parse_cycles dc_parse_cycles pm_parse_cycles an_parse_cycles cd_parse_cycles ct_parse_cycles), sl_parse_cycles⟩) (c_parse_cycles : PySem.W.codeIn K cd_parse_cycles "parse_cycles" = true) (k_parse_cycles : PySem.W.keepIn K (.ref f_parse_cycles) = true)
    {f__law_start : Addr} {od__law_start an__law_start : Option Addr} {sl__law_start : Array (Option Value)} {oc__law_start kV__law_start dc__law_start pm__law_start cd__law_start ct__law_start : Value}
    (a__law_start : PySem.W.nsIn K mainGlobals "_law_start" = some (some (.ref f__law_start))) (l__law_start : K.lookup f__law_start = some ⟨oc__law_start, od__law_start, .func (PySem.W.fnOf "_law_start" "_law_start" (defArgs s__law_start) (defBody s__law_start) (defScope s__law_start) .none kV__law_start dc__law_start pm__law_start an__law_start cd__law_start ct__law_start), sl__law_start⟩) (c__law_start : PySem.W.codeIn K cd__law_start "_law_start" = true) (k__law_start : PySem.W.keepIn K (.ref f__law_start) = true)
    {f__law_draw : Addr} {od__law_draw an__law_draw : Option Addr} {sl__law_draw : Array (Option Value)} {oc__law_draw kV__law_draw dc__law_draw pm__law_draw cd__law_draw ct__law_draw : Value}
    (a__law_draw : PySem.W.nsIn K mainGlobals "_law_draw" = some (some (.ref f__law_draw))) (l__law_draw : K.lookup f__law_draw = some ⟨oc__law_draw, od__law_draw, .func (PySem.W.fnOf "_law_draw" "_law_draw" (defArgs s__law_draw) (defBody s__law_draw) (defScope s__law_draw) .none kV__law_draw dc__law_draw pm__law_draw an__law_draw cd__law_draw ct__law_draw), sl__law_draw⟩) (c__law_draw : PySem.W.codeIn K cd__law_draw "_law_draw" = true) (k__law_draw : PySem.W.keepIn K (.ref f__law_draw) = true)
    {f__law_pick : Addr} {od__law_pick an__law_pick : Option Addr} {sl__law_pick : Array (Option Value)} {oc__law_pick kV__law_pick dc__law_pick pm__law_pick cd__law_pick ct__law_pick : Value}
    (a__law_pick : PySem.W.nsIn K mainGlobals "_law_pick" = some (some (.ref f__law_pick))) (l__law_pick : K.lookup f__law_pick = some ⟨oc__law_pick, od__law_pick, .func (PySem.W.fnOf "_law_pick" "_law_pick" (defArgs s__law_pick) (defBody s__law_pick) (defScope s__law_pick) .none kV__law_pick dc__law_pick pm__law_pick an__law_pick cd__law_pick ct__law_pick), sl__law_pick⟩) (c__law_pick : PySem.W.codeIn K cd__law_pick "_law_pick" = true) (k__law_pick : PySem.W.keepIn K (.ref f__law_pick) = true)
    {f__law_error : Addr} {od__law_error an__law_error : Option Addr} {sl__law_error : Array (Option Value)} {oc__law_error kV__law_error dc__law_error pm__law_error cd__law_error ct__law_error : Value}
    (a__law_error : PySem.W.nsIn K mainGlobals "_law_error" = some (some (.ref f__law_error))) (l__law_error : K.lookup f__law_error = some ⟨oc__law_error, od__law_error, .func (PySem.W.fnOf "_law_error" "_law_error" (defArgs s__law_error) (defBody s__law_error) (defScope s__law_error) .none kV__law_error dc__law_error pm__law_error an__law_error cd__law_error ct__law_error), sl__law_error⟩) (c__law_error : PySem.W.codeIn K cd__law_error "_law_error" = true) (k__law_error : PySem.W.keepIn K (.ref f__law_error) = true)
    {f__law_row : Addr} {od__law_row an__law_row : Option Addr} {sl__law_row : Array (Option Value)} {oc__law_row kV__law_row dc__law_row pm__law_row cd__law_row ct__law_row : Value}
    (a__law_row : PySem.W.nsIn K mainGlobals "_law_row" = some (some (.ref f__law_row))) (l__law_row : K.lookup f__law_row = some ⟨oc__law_row, od__law_row, .func (PySem.W.fnOf "_law_row" "_law_row" (defArgs s__law_row) (defBody s__law_row) (defScope s__law_row) .none kV__law_row dc__law_row pm__law_row an__law_row cd__law_row ct__law_row), sl__law_row⟩) (c__law_row : PySem.W.codeIn K cd__law_row "_law_row" = true) (k__law_row : PySem.W.keepIn K (.ref f__law_row) = true)
    {f__law_cycles : Addr} {od__law_cycles an__law_cycles : Option Addr} {sl__law_cycles : Array (Option Value)} {oc__law_cycles kV__law_cycles dc__law_cycles pm__law_cycles cd__law_cycles ct__law_cycles : Value}
    (a__law_cycles : PySem.W.nsIn K mainGlobals "_law_cycles" = some (some (.ref f__law_cycles))) (l__law_cycles : K.lookup f__law_cycles = some ⟨oc__law_cycles, od__law_cycles, .func (PySem.W.fnOf "_law_cycles" "_law_cycles" (defArgs s__law_cycles) (defBody s__law_cycles) (defScope s__law_cycles) .none kV__law_cycles dc__law_cycles pm__law_cycles an__law_cycles cd__law_cycles ct__law_cycles), sl__law_cycles⟩) (c__law_cycles : PySem.W.codeIn K cd__law_cycles "_law_cycles" = true) (k__law_cycles : PySem.W.keepIn K (.ref f__law_cycles) = true)
    {f__law_written : Addr} {od__law_written an__law_written : Option Addr} {sl__law_written : Array (Option Value)} {oc__law_written kV__law_written dc__law_written pm__law_written cd__law_written ct__law_written : Value}
    (a__law_written : PySem.W.nsIn K mainGlobals "_law_written" = some (some (.ref f__law_written))) (l__law_written : K.lookup f__law_written = some ⟨oc__law_written, od__law_written, .func (PySem.W.fnOf "_law_written" "_law_written" (defArgs s__law_written) (defBody s__law_written) (defScope s__law_written) .none kV__law_written dc__law_written pm__law_written an__law_written cd__law_written ct__law_written), sl__law_written⟩) (c__law_written : PySem.W.codeIn K cd__law_written "_law_written" = true) (k__law_written : PySem.W.keepIn K (.ref f__law_written) = true)
    {f__law_parsed : Addr} {od__law_parsed an__law_parsed : Option Addr} {sl__law_parsed : Array (Option Value)} {oc__law_parsed kV__law_parsed dc__law_parsed pm__law_parsed cd__law_parsed ct__law_parsed : Value}
    (a__law_parsed : PySem.W.nsIn K mainGlobals "_law_parsed" = some (some (.ref f__law_parsed))) (l__law_parsed : K.lookup f__law_parsed = some ⟨oc__law_parsed, od__law_parsed, .func (PySem.W.fnOf "_law_parsed" "_law_parsed" (defArgs s__law_parsed) (defBody s__law_parsed) (defScope s__law_parsed) .none kV__law_parsed dc__law_parsed pm__law_parsed an__law_parsed cd__law_parsed ct__law_parsed), sl__law_parsed⟩) (c__law_parsed : PySem.W.codeIn K cd__law_parsed "_law_parsed" = true) (k__law_parsed : PySem.W.keepIn K (.ref f__law_parsed) = true)
    {f__law_rejected : Addr} {od__law_rejected an__law_rejected : Option Addr} {sl__law_rejected : Array (Option Value)} {oc__law_rejected kV__law_rejected dc__law_rejected pm__law_rejected cd__law_rejected ct__law_rejected : Value}
    (a__law_rejected : PySem.W.nsIn K mainGlobals "_law_rejected" = some (some (.ref f__law_rejected))) (l__law_rejected : K.lookup f__law_rejected = some ⟨oc__law_rejected, od__law_rejected, .func (PySem.W.fnOf "_law_rejected" "_law_rejected" (defArgs s__law_rejected) (defBody s__law_rejected) (defScope s__law_rejected) .none kV__law_rejected dc__law_rejected pm__law_rejected an__law_rejected cd__law_rejected ct__law_rejected), sl__law_rejected⟩) (c__law_rejected : PySem.W.codeIn K cd__law_rejected "_law_rejected" = true) (k__law_rejected : PySem.W.keepIn K (.ref f__law_rejected) = true)
    {f_law : Addr} {od_law an_law : Option Addr} {sl_law : Array (Option Value)} {oc_law kV_law dc_law pm_law cd_law ct_law : Value}
    (a_law : PySem.W.nsIn K mainGlobals "law" = some (some (.ref f_law))) (l_law : K.lookup f_law = some ⟨oc_law, od_law, .func (PySem.W.fnOf "law" "law" (defArgs s_law) (defBody s_law) (defScope s_law) .none kV_law dc_law pm_law an_law cd_law ct_law), sl_law⟩) (c_law : PySem.W.codeIn K cd_law "law" = true) (k_law : PySem.W.keepIn K (.ref f_law) = true)
    {C_RainError : Addr} (ga_RainError : PySem.W.nsIn K mainGlobals "RainError" = some (some (.ref C_RainError))) (xx_RainError : PySem.W.excIn K C_RainError [.type "ValueError", .type "Exception", .type "BaseException", .type "object"] "ValueError.__new__" = true) (kk_RainError : PySem.W.keepIn K (.ref C_RainError) = true) (ee_RainError : PySem.W.subIn K (.ref C_RainError) (.type "BaseException") = some true) (tt_RainError : PySem.W.typeIn K (.ref C_RainError) = some (.type "type"))
    {C_BadRow : Addr} (ga_BadRow : PySem.W.nsIn K mainGlobals "BadRow" = some (some (.ref C_BadRow))) (xx_BadRow : PySem.W.excIn K C_BadRow [.type "ValueError", .type "Exception", .type "BaseException", .type "object"] "ValueError.__new__" = true) (kk_BadRow : PySem.W.keepIn K (.ref C_BadRow) = true) (ee_BadRow : PySem.W.subIn K (.ref C_BadRow) (.type "BaseException") = some true) (tt_BadRow : PySem.W.typeIn K (.ref C_BadRow) = some (.type "type"))
    {C_BadCycles : Addr} (ga_BadCycles : PySem.W.nsIn K mainGlobals "BadCycles" = some (some (.ref C_BadCycles))) (xx_BadCycles : PySem.W.excIn K C_BadCycles [.type "ValueError", .type "Exception", .type "BaseException", .type "object"] "ValueError.__new__" = true) (kk_BadCycles : PySem.W.keepIn K (.ref C_BadCycles) = true) (ee_BadCycles : PySem.W.subIn K (.ref C_BadCycles) (.type "BaseException") = some true) (tt_BadCycles : PySem.W.typeIn K (.ref C_BadCycles) = some (.type "type"))
    {C_BadRest : Addr} (ga_BadRest : PySem.W.nsIn K mainGlobals "BadRest" = some (some (.ref C_BadRest))) (xx_BadRest : PySem.W.excIn K C_BadRest [.type "ValueError", .type "Exception", .type "BaseException", .type "object"] "ValueError.__new__" = true) (kk_BadRest : PySem.W.keepIn K (.ref C_BadRest) = true) (ee_BadRest : PySem.W.subIn K (.ref C_BadRest) (.type "BaseException") = some true) (tt_BadRest : PySem.W.typeIn K (.ref C_BadRest) = some (.type "type"))
    {C_BadNumber : Addr} (ga_BadNumber : PySem.W.nsIn K mainGlobals "BadNumber" = some (some (.ref C_BadNumber))) (xx_BadNumber : PySem.W.excIn K C_BadNumber [.type "ValueError", .type "Exception", .type "BaseException", .type "object"] "ValueError.__new__" = true) (kk_BadNumber : PySem.W.keepIn K (.ref C_BadNumber) = true) (ee_BadNumber : PySem.W.subIn K (.ref C_BadNumber) (.type "BaseException") = some true) (tt_BadNumber : PySem.W.typeIn K (.ref C_BadNumber) = some (.type "type"))
    {C_BadText : Addr} (ga_BadText : PySem.W.nsIn K mainGlobals "BadText" = some (some (.ref C_BadText))) (xx_BadText : PySem.W.excIn K C_BadText [.type "ValueError", .type "Exception", .type "BaseException", .type "object"] "ValueError.__new__" = true) (kk_BadText : PySem.W.keepIn K (.ref C_BadText) = true) (ee_BadText : PySem.W.subIn K (.ref C_BadText) (.type "BaseException") = some true) (tt_BadText : PySem.W.typeIn K (.ref C_BadText) = some (.type "type"))
    {C_NotFound : Addr} (ga_NotFound : PySem.W.nsIn K mainGlobals "NotFound" = some (some (.ref C_NotFound))) (xx_NotFound : PySem.W.excIn K C_NotFound [.type "ValueError", .type "Exception", .type "BaseException", .type "object"] "ValueError.__new__" = true) (kk_NotFound : PySem.W.keepIn K (.ref C_NotFound) = true) (ee_NotFound : PySem.W.subIn K (.ref C_NotFound) (.type "BaseException") = some true) (tt_NotFound : PySem.W.typeIn K (.ref C_NotFound) = some (.type "type"))
    {tk_MOST_VALUES : Tok} (q_MOST_VALUES : PySem.W.nsIn K mainGlobals "MOST_VALUES" = some (some (.int 24 tk_MOST_VALUES)))
    {tk_MOST_VALUE : Tok} (q_MOST_VALUE : PySem.W.nsIn K mainGlobals "MOST_VALUE" = some (some (.int 99 tk_MOST_VALUE)))
    {tk_MOST_CYCLES : Tok} (q_MOST_CYCLES : PySem.W.nsIn K mainGlobals "MOST_CYCLES" = some (some (.int 10 tk_MOST_CYCLES)))
    {tk_DIGITS : Tok} (q_DIGITS : PySem.W.nsIn K mainGlobals "DIGITS" = some (some (.str "0123456789" tk_DIGITS)))
    (hn_ : PySem.W.specialIn K (.builtin "object.__class__") "__get__" = some (some (.builtin "getset_descriptor.__get__"))) (ht_ : PySem.W.takesIn K (.builtin "object.__class__") = some true) (f3_RainError : PySem.W.hasDictIn K C_RainError = true)
    (f1_BadRow : PySem.W.findIn K (.ref C_BadRow) "__getattribute__" = some (some (.builtin "BaseException.__getattribute__"))) (f2_BadRow : PySem.W.findIn K (.ref C_BadRow) "__getattr__" = some none) (f3_BadRow : PySem.W.hasDictIn K C_BadRow = true) (f4_BadRow : PySem.W.findIn K (.ref C_BadRow) "__class__" = some (some (.builtin "object.__class__"))) (f6_BadRow : PySem.W.mroIn K C_BadRow (.type "object") = some true)
    (kq_BadRow_BadRow : PySem.W.subIn K (.ref C_BadRow) (.ref C_BadRow) = some true)
    (kq_BadRow_BadCycles : PySem.W.subIn K (.ref C_BadRow) (.ref C_BadCycles) = some false)
    (kq_BadRow_BadRest : PySem.W.subIn K (.ref C_BadRow) (.ref C_BadRest) = some false)
    (kq_BadRow_BadNumber : PySem.W.subIn K (.ref C_BadRow) (.ref C_BadNumber) = some false)
    (kq_BadRow_BadText : PySem.W.subIn K (.ref C_BadRow) (.ref C_BadText) = some false)
    (kq_BadRow_NotFound : PySem.W.subIn K (.ref C_BadRow) (.ref C_NotFound) = some false)
    (kr_BadRow : PySem.W.subIn K (.ref C_BadRow) (.ref C_RainError) = some true) (kv_BadRow : PySem.W.subIn K (.ref C_BadRow) (.type "ValueError") = some true)
    (f1_BadCycles : PySem.W.findIn K (.ref C_BadCycles) "__getattribute__" = some (some (.builtin "BaseException.__getattribute__"))) (f2_BadCycles : PySem.W.findIn K (.ref C_BadCycles) "__getattr__" = some none) (f3_BadCycles : PySem.W.hasDictIn K C_BadCycles = true) (f4_BadCycles : PySem.W.findIn K (.ref C_BadCycles) "__class__" = some (some (.builtin "object.__class__"))) (f6_BadCycles : PySem.W.mroIn K C_BadCycles (.type "object") = some true)
    (kq_BadCycles_BadRow : PySem.W.subIn K (.ref C_BadCycles) (.ref C_BadRow) = some false)
    (kq_BadCycles_BadCycles : PySem.W.subIn K (.ref C_BadCycles) (.ref C_BadCycles) = some true)
    (kq_BadCycles_BadRest : PySem.W.subIn K (.ref C_BadCycles) (.ref C_BadRest) = some false)
    (kq_BadCycles_BadNumber : PySem.W.subIn K (.ref C_BadCycles) (.ref C_BadNumber) = some false)
    (kq_BadCycles_BadText : PySem.W.subIn K (.ref C_BadCycles) (.ref C_BadText) = some false)
    (kq_BadCycles_NotFound : PySem.W.subIn K (.ref C_BadCycles) (.ref C_NotFound) = some false)
    (kr_BadCycles : PySem.W.subIn K (.ref C_BadCycles) (.ref C_RainError) = some true) (kv_BadCycles : PySem.W.subIn K (.ref C_BadCycles) (.type "ValueError") = some true)
    (f1_BadRest : PySem.W.findIn K (.ref C_BadRest) "__getattribute__" = some (some (.builtin "BaseException.__getattribute__"))) (f2_BadRest : PySem.W.findIn K (.ref C_BadRest) "__getattr__" = some none) (f3_BadRest : PySem.W.hasDictIn K C_BadRest = true) (f4_BadRest : PySem.W.findIn K (.ref C_BadRest) "__class__" = some (some (.builtin "object.__class__"))) (f6_BadRest : PySem.W.mroIn K C_BadRest (.type "object") = some true)
    (kq_BadRest_BadRow : PySem.W.subIn K (.ref C_BadRest) (.ref C_BadRow) = some false)
    (kq_BadRest_BadCycles : PySem.W.subIn K (.ref C_BadRest) (.ref C_BadCycles) = some false)
    (kq_BadRest_BadRest : PySem.W.subIn K (.ref C_BadRest) (.ref C_BadRest) = some true)
    (kq_BadRest_BadNumber : PySem.W.subIn K (.ref C_BadRest) (.ref C_BadNumber) = some false)
    (kq_BadRest_BadText : PySem.W.subIn K (.ref C_BadRest) (.ref C_BadText) = some false)
    (kq_BadRest_NotFound : PySem.W.subIn K (.ref C_BadRest) (.ref C_NotFound) = some false)
    (kr_BadRest : PySem.W.subIn K (.ref C_BadRest) (.ref C_RainError) = some true) (kv_BadRest : PySem.W.subIn K (.ref C_BadRest) (.type "ValueError") = some true)
    (f1_BadNumber : PySem.W.findIn K (.ref C_BadNumber) "__getattribute__" = some (some (.builtin "BaseException.__getattribute__"))) (f2_BadNumber : PySem.W.findIn K (.ref C_BadNumber) "__getattr__" = some none) (f3_BadNumber : PySem.W.hasDictIn K C_BadNumber = true) (f4_BadNumber : PySem.W.findIn K (.ref C_BadNumber) "__class__" = some (some (.builtin "object.__class__"))) (f6_BadNumber : PySem.W.mroIn K C_BadNumber (.type "object") = some true)
    (kq_BadNumber_BadRow : PySem.W.subIn K (.ref C_BadNumber) (.ref C_BadRow) = some false)
    (kq_BadNumber_BadCycles : PySem.W.subIn K (.ref C_BadNumber) (.ref C_BadCycles) = some false)
    (kq_BadNumber_BadRest : PySem.W.subIn K (.ref C_BadNumber) (.ref C_BadRest) = some false)
    (kq_BadNumber_BadNumber : PySem.W.subIn K (.ref C_BadNumber) (.ref C_BadNumber) = some true)
    (kq_BadNumber_BadText : PySem.W.subIn K (.ref C_BadNumber) (.ref C_BadText) = some false)
    (kq_BadNumber_NotFound : PySem.W.subIn K (.ref C_BadNumber) (.ref C_NotFound) = some false)
    (kr_BadNumber : PySem.W.subIn K (.ref C_BadNumber) (.ref C_RainError) = some true) (kv_BadNumber : PySem.W.subIn K (.ref C_BadNumber) (.type "ValueError") = some true)
    (f1_BadText : PySem.W.findIn K (.ref C_BadText) "__getattribute__" = some (some (.builtin "BaseException.__getattribute__"))) (f2_BadText : PySem.W.findIn K (.ref C_BadText) "__getattr__" = some none) (f3_BadText : PySem.W.hasDictIn K C_BadText = true) (f4_BadText : PySem.W.findIn K (.ref C_BadText) "__class__" = some (some (.builtin "object.__class__"))) (f6_BadText : PySem.W.mroIn K C_BadText (.type "object") = some true)
    (kq_BadText_BadRow : PySem.W.subIn K (.ref C_BadText) (.ref C_BadRow) = some false)
    (kq_BadText_BadCycles : PySem.W.subIn K (.ref C_BadText) (.ref C_BadCycles) = some false)
    (kq_BadText_BadRest : PySem.W.subIn K (.ref C_BadText) (.ref C_BadRest) = some false)
    (kq_BadText_BadNumber : PySem.W.subIn K (.ref C_BadText) (.ref C_BadNumber) = some false)
    (kq_BadText_BadText : PySem.W.subIn K (.ref C_BadText) (.ref C_BadText) = some true)
    (kq_BadText_NotFound : PySem.W.subIn K (.ref C_BadText) (.ref C_NotFound) = some false)
    (kr_BadText : PySem.W.subIn K (.ref C_BadText) (.ref C_RainError) = some true) (kv_BadText : PySem.W.subIn K (.ref C_BadText) (.type "ValueError") = some true)
    (f1_NotFound : PySem.W.findIn K (.ref C_NotFound) "__getattribute__" = some (some (.builtin "BaseException.__getattribute__"))) (f2_NotFound : PySem.W.findIn K (.ref C_NotFound) "__getattr__" = some none) (f3_NotFound : PySem.W.hasDictIn K C_NotFound = true) (f4_NotFound : PySem.W.findIn K (.ref C_NotFound) "__class__" = some (some (.builtin "object.__class__"))) (f6_NotFound : PySem.W.mroIn K C_NotFound (.type "object") = some true)
    (kq_NotFound_BadRow : PySem.W.subIn K (.ref C_NotFound) (.ref C_BadRow) = some false)
    (kq_NotFound_BadCycles : PySem.W.subIn K (.ref C_NotFound) (.ref C_BadCycles) = some false)
    (kq_NotFound_BadRest : PySem.W.subIn K (.ref C_NotFound) (.ref C_BadRest) = some false)
    (kq_NotFound_BadNumber : PySem.W.subIn K (.ref C_NotFound) (.ref C_BadNumber) = some false)
    (kq_NotFound_BadText : PySem.W.subIn K (.ref C_NotFound) (.ref C_BadText) = some false)
    (kq_NotFound_NotFound : PySem.W.subIn K (.ref C_NotFound) (.ref C_NotFound) = some true)
    (kr_NotFound : PySem.W.subIn K (.ref C_NotFound) (.ref C_RainError) = some true) (kv_NotFound : PySem.W.subIn K (.ref C_NotFound) (.type "ValueError") = some true)
    (z_ValueError : PySem.W.nsIn K mainGlobals "ValueError" = some none)
    (z_all : PySem.W.nsIn K mainGlobals "all" = some none)
    (z_bool : PySem.W.nsIn K mainGlobals "bool" = some none)
    (z_int : PySem.W.nsIn K mainGlobals "int" = some none)
    (z_isinstance : PySem.W.nsIn K mainGlobals "isinstance" = some none)
    (z_len : PySem.W.nsIn K mainGlobals "len" = some none)
    (z_list : PySem.W.nsIn K mainGlobals "list" = some none)
    (z_max : PySem.W.nsIn K mainGlobals "max" = some none)
    (z_min : PySem.W.nsIn K mainGlobals "min" = some none)
    (z_range : PySem.W.nsIn K mainGlobals "range" = some none)
    (z_sorted : PySem.W.nsIn K mainGlobals "sorted" = some none)
    (z_str : PySem.W.nsIn K mainGlobals "str" = some none)
    (z_tuple : PySem.W.nsIn K mainGlobals "tuple" = some none) :
    ∃ fd : FuncData, (∀ (s : Shared) (v : Value), BindsTo s fd ⟨[v], []⟩ [("script", v)]) ∧ ∀ base : Heap, K.In base → base.Ns mainGlobals mg → FnOk l.prog w K mg base CX0 7 fa fd ["script"] (sp_law K) := by
  have e := hfa.symm.trans (PySem.W.mg_of X G a_law)
  cases e
  let T : TX K mg := {
    a_is_int := _, d_is_int := _, F_is_int := fun_mk (st := s_is_int) l_is_int c_is_int k_is_int, b_is_int := (fun_mk (st := s_is_int) l_is_int c_is_int k_is_int).binds (ps := ["value", "low", "high"]) (fun _ _ _ _ _ _ us hl => match us, hl with | [_, _, _], _ => rfl), g_is_int := PySem.W.mg_of X G a_is_int,
    a_is_row := _, d_is_row := _, F_is_row := fun_mk (st := s_is_row) l_is_row c_is_row k_is_row, b_is_row := (fun_mk (st := s_is_row) l_is_row c_is_row k_is_row).binds (ps := ["value"]) (fun _ _ _ _ _ _ us hl => match us, hl with | [_], _ => rfl), g_is_row := PySem.W.mg_of X G a_is_row,
    a_check_row := _, d_check_row := _, F_check_row := fun_mk (st := s_check_row) l_check_row c_check_row k_check_row, b_check_row := (fun_mk (st := s_check_row) l_check_row c_check_row k_check_row).binds (ps := ["value"]) (fun _ _ _ _ _ _ us hl => match us, hl with | [_], _ => rfl), g_check_row := PySem.W.mg_of X G a_check_row,
    a_is_cycle := _, d_is_cycle := _, F_is_cycle := fun_mk (st := s_is_cycle) l_is_cycle c_is_cycle k_is_cycle, b_is_cycle := (fun_mk (st := s_is_cycle) l_is_cycle c_is_cycle k_is_cycle).binds (ps := ["value"]) (fun _ _ _ _ _ _ us hl => match us, hl with | [_], _ => rfl), g_is_cycle := PySem.W.mg_of X G a_is_cycle,
    a_are_cycles := _, d_are_cycles := _, F_are_cycles := fun_mk (st := s_are_cycles) l_are_cycles c_are_cycles k_are_cycles, b_are_cycles := (fun_mk (st := s_are_cycles) l_are_cycles c_are_cycles k_are_cycles).binds (ps := ["value"]) (fun _ _ _ _ _ _ us hl => match us, hl with | [_], _ => rfl), g_are_cycles := PySem.W.mg_of X G a_are_cycles,
    a_check_cycles := _, d_check_cycles := _, F_check_cycles := fun_mk (st := s_check_cycles) l_check_cycles c_check_cycles k_check_cycles, b_check_cycles := (fun_mk (st := s_check_cycles) l_check_cycles c_check_cycles k_check_cycles).binds (ps := ["value"]) (fun _ _ _ _ _ _ us hl => match us, hl with | [_], _ => rfl), g_check_cycles := PySem.W.mg_of X G a_check_cycles,
    a_parse_number := _, d_parse_number := _, F_parse_number := fun_mk (st := s_parse_number) l_parse_number c_parse_number k_parse_number, b_parse_number := (fun_mk (st := s_parse_number) l_parse_number c_parse_number k_parse_number).binds (ps := ["word"]) (fun _ _ _ _ _ _ us hl => match us, hl with | [_], _ => rfl), g_parse_number := PySem.W.mg_of X G a_parse_number,
    a_check_text := _, d_check_text := _, F_check_text := fun_mk (st := s_check_text) l_check_text c_check_text k_check_text, b_check_text := (fun_mk (st := s_check_text) l_check_text c_check_text k_check_text).binds (ps := ["text"]) (fun _ _ _ _ _ _ us hl => match us, hl with | [_], _ => rfl), g_check_text := PySem.W.mg_of X G a_check_text,
    a_format_row := _, d_format_row := _, F_format_row := fun_mk (st := s_format_row) l_format_row c_format_row k_format_row, b_format_row := (fun_mk (st := s_format_row) l_format_row c_format_row k_format_row).binds (ps := ["row"]) (fun _ _ _ _ _ _ us hl => match us, hl with | [_], _ => rfl), g_format_row := PySem.W.mg_of X G a_format_row,
    a_parse_row := _, d_parse_row := _, F_parse_row := fun_mk (st := s_parse_row) l_parse_row c_parse_row k_parse_row, b_parse_row := (fun_mk (st := s_parse_row) l_parse_row c_parse_row k_parse_row).binds (ps := ["text"]) (fun _ _ _ _ _ _ us hl => match us, hl with | [_], _ => rfl), g_parse_row := PySem.W.mg_of X G a_parse_row,
    a_format_cycles := _, d_format_cycles := _, F_format_cycles := fun_mk (st := s_format_cycles) l_format_cycles c_format_cycles k_format_cycles, b_format_cycles := (fun_mk (st := s_format_cycles) l_format_cycles c_format_cycles k_format_cycles).binds (ps := ["cycles"]) (fun _ _ _ _ _ _ us hl => match us, hl with | [_], _ => rfl), g_format_cycles := PySem.W.mg_of X G a_format_cycles,
    a_parse_cycles := _, d_parse_cycles := _, F_parse_cycles := fun_mk (st := s_parse_cycles) l_parse_cycles c_parse_cycles k_parse_cycles, b_parse_cycles := (fun_mk (st := s_parse_cycles) l_parse_cycles c_parse_cycles k_parse_cycles).binds (ps := ["text"]) (fun _ _ _ _ _ _ us hl => match us, hl with | [_], _ => rfl), g_parse_cycles := PySem.W.mg_of X G a_parse_cycles,
    a__law_start := _, d__law_start := _, F__law_start := fun_mk (st := s__law_start) l__law_start c__law_start k__law_start, b__law_start := (fun_mk (st := s__law_start) l__law_start c__law_start k__law_start).binds (ps := ["script"]) (fun _ _ _ _ _ _ us hl => match us, hl with | [_], _ => rfl), g__law_start := PySem.W.mg_of X G a__law_start,
    a__law_draw := _, d__law_draw := _, F__law_draw := fun_mk (st := s__law_draw) l__law_draw c__law_draw k__law_draw, b__law_draw := (fun_mk (st := s__law_draw) l__law_draw c__law_draw k__law_draw).binds (ps := ["draws", "limit"]) (fun _ _ _ _ _ _ us hl => match us, hl with | [_, _], _ => rfl), g__law_draw := PySem.W.mg_of X G a__law_draw,
    a__law_pick := _, d__law_pick := _, F__law_pick := fun_mk (st := s__law_pick) l__law_pick c__law_pick k__law_pick, b__law_pick := (fun_mk (st := s__law_pick) l__law_pick c__law_pick k__law_pick).binds (ps := ["draws", "choices"]) (fun _ _ _ _ _ _ us hl => match us, hl with | [_, _], _ => rfl), g__law_pick := PySem.W.mg_of X G a__law_pick,
    a__law_error := _, d__law_error := _, F__law_error := fun_mk (st := s__law_error) l__law_error c__law_error k__law_error, b__law_error := (fun_mk (st := s__law_error) l__law_error c__law_error k__law_error).binds (ps := ["caught"]) (fun _ _ _ _ _ _ us hl => match us, hl with | [_], _ => rfl), g__law_error := PySem.W.mg_of X G a__law_error,
    a__law_row := _, d__law_row := _, F__law_row := fun_mk (st := s__law_row) l__law_row c__law_row k__law_row, b__law_row := (fun_mk (st := s__law_row) l__law_row c__law_row k__law_row).binds (ps := ["draws", "most"]) (fun _ _ _ _ _ _ us hl => match us, hl with | [_, _], _ => rfl), g__law_row := PySem.W.mg_of X G a__law_row,
    a__law_cycles := _, d__law_cycles := _, F__law_cycles := fun_mk (st := s__law_cycles) l__law_cycles c__law_cycles k__law_cycles, b__law_cycles := (fun_mk (st := s__law_cycles) l__law_cycles c__law_cycles k__law_cycles).binds (ps := ["draws", "row", "most"]) (fun _ _ _ _ _ _ us hl => match us, hl with | [_, _, _], _ => rfl), g__law_cycles := PySem.W.mg_of X G a__law_cycles,
    a__law_written := _, d__law_written := _, F__law_written := fun_mk (st := s__law_written) l__law_written c__law_written k__law_written, b__law_written := (fun_mk (st := s__law_written) l__law_written c__law_written k__law_written).binds (ps := ["kind", "thing"]) (fun _ _ _ _ _ _ us hl => match us, hl with | [_, _], _ => rfl), g__law_written := PySem.W.mg_of X G a__law_written,
    a__law_parsed := _, d__law_parsed := _, F__law_parsed := fun_mk (st := s__law_parsed) l__law_parsed c__law_parsed k__law_parsed, b__law_parsed := (fun_mk (st := s__law_parsed) l__law_parsed c__law_parsed k__law_parsed).binds (ps := ["kind", "text"]) (fun _ _ _ _ _ _ us hl => match us, hl with | [_, _], _ => rfl), g__law_parsed := PySem.W.mg_of X G a__law_parsed,
    a__law_rejected := _, d__law_rejected := _, F__law_rejected := fun_mk (st := s__law_rejected) l__law_rejected c__law_rejected k__law_rejected, b__law_rejected := (fun_mk (st := s__law_rejected) l__law_rejected c__law_rejected k__law_rejected).binds (ps := []) (fun _ _ _ _ _ _ us hl => match us, hl with | [], _ => rfl), g__law_rejected := PySem.W.mg_of X G a__law_rejected,
    a_law := _, d_law := _, F_law := fun_mk (st := s_law) l_law c_law k_law, b_law := (fun_mk (st := s_law) l_law c_law k_law).binds (ps := ["script"]) (fun _ _ _ _ _ _ us hl => match us, hl with | [_], _ => rfl), g_law := PySem.W.mg_of X G a_law,
    C_RainError := C_RainError, g_RainError := PySem.W.mg_of X G ga_RainError, x_RainError := xx_RainError, k_RainError := kk_RainError, e_RainError := ee_RainError, t_RainError := tt_RainError,
    C_BadRow := C_BadRow, g_BadRow := PySem.W.mg_of X G ga_BadRow, x_BadRow := xx_BadRow, k_BadRow := kk_BadRow, e_BadRow := ee_BadRow, t_BadRow := tt_BadRow,
    C_BadCycles := C_BadCycles, g_BadCycles := PySem.W.mg_of X G ga_BadCycles, x_BadCycles := xx_BadCycles, k_BadCycles := kk_BadCycles, e_BadCycles := ee_BadCycles, t_BadCycles := tt_BadCycles,
    C_BadRest := C_BadRest, g_BadRest := PySem.W.mg_of X G ga_BadRest, x_BadRest := xx_BadRest, k_BadRest := kk_BadRest, e_BadRest := ee_BadRest, t_BadRest := tt_BadRest,
    C_BadNumber := C_BadNumber, g_BadNumber := PySem.W.mg_of X G ga_BadNumber, x_BadNumber := xx_BadNumber, k_BadNumber := kk_BadNumber, e_BadNumber := ee_BadNumber, t_BadNumber := tt_BadNumber,
    C_BadText := C_BadText, g_BadText := PySem.W.mg_of X G ga_BadText, x_BadText := xx_BadText, k_BadText := kk_BadText, e_BadText := ee_BadText, t_BadText := tt_BadText,
    C_NotFound := C_NotFound, g_NotFound := PySem.W.mg_of X G ga_NotFound, x_NotFound := xx_NotFound, k_NotFound := kk_NotFound, e_NotFound := ee_NotFound, t_NotFound := tt_NotFound,
    tk_MOST_VALUES := tk_MOST_VALUES, c_MOST_VALUES := PySem.W.mg_of X G q_MOST_VALUES,
    tk_MOST_VALUE := tk_MOST_VALUE, c_MOST_VALUE := PySem.W.mg_of X G q_MOST_VALUE,
    tk_MOST_CYCLES := tk_MOST_CYCLES, c_MOST_CYCLES := PySem.W.mg_of X G q_MOST_CYCLES,
    tk_DIGITS := tk_DIGITS, c_DIGITS := PySem.W.mg_of X G q_DIGITS,
    e6_BadRow := ⟨⟨f1_BadRow, f2_BadRow, ee_BadRow, f3_BadRow, f4_BadRow, hn_, ht_, f6_BadRow⟩, fun i C h => (match i, h with | 0, rfl => kit_own kq_BadRow_BadRow f3_BadRow tt_BadRow kq_BadRow_BadRow | 1, rfl => kit_own kq_BadRow_BadRow f3_BadCycles tt_BadCycles kq_BadRow_BadCycles | 2, rfl => kit_own kq_BadRow_BadRow f3_BadRest tt_BadRest kq_BadRow_BadRest | 3, rfl => kit_own kq_BadRow_BadRow f3_BadNumber tt_BadNumber kq_BadRow_BadNumber | 4, rfl => kit_own kq_BadRow_BadRow f3_BadText tt_BadText kq_BadRow_BadText | 5, rfl => kit_own kq_BadRow_BadRow f3_NotFound tt_NotFound kq_BadRow_NotFound | (n + 6), h => nomatch h), kit_own kq_BadRow_BadRow f3_RainError tt_RainError kr_BadRow, kit_val kv_BadRow, PySem.W.exm_ref ee_RainError f3_RainError tt_RainError kr_BadRow⟩,
    e6_BadCycles := ⟨⟨f1_BadCycles, f2_BadCycles, ee_BadCycles, f3_BadCycles, f4_BadCycles, hn_, ht_, f6_BadCycles⟩, fun i C h => (match i, h with | 0, rfl => kit_own kq_BadCycles_BadCycles f3_BadRow tt_BadRow kq_BadCycles_BadRow | 1, rfl => kit_own kq_BadCycles_BadCycles f3_BadCycles tt_BadCycles kq_BadCycles_BadCycles | 2, rfl => kit_own kq_BadCycles_BadCycles f3_BadRest tt_BadRest kq_BadCycles_BadRest | 3, rfl => kit_own kq_BadCycles_BadCycles f3_BadNumber tt_BadNumber kq_BadCycles_BadNumber | 4, rfl => kit_own kq_BadCycles_BadCycles f3_BadText tt_BadText kq_BadCycles_BadText | 5, rfl => kit_own kq_BadCycles_BadCycles f3_NotFound tt_NotFound kq_BadCycles_NotFound | (n + 6), h => nomatch h), kit_own kq_BadCycles_BadCycles f3_RainError tt_RainError kr_BadCycles, kit_val kv_BadCycles, PySem.W.exm_ref ee_RainError f3_RainError tt_RainError kr_BadCycles⟩,
    e6_BadRest := ⟨⟨f1_BadRest, f2_BadRest, ee_BadRest, f3_BadRest, f4_BadRest, hn_, ht_, f6_BadRest⟩, fun i C h => (match i, h with | 0, rfl => kit_own kq_BadRest_BadRest f3_BadRow tt_BadRow kq_BadRest_BadRow | 1, rfl => kit_own kq_BadRest_BadRest f3_BadCycles tt_BadCycles kq_BadRest_BadCycles | 2, rfl => kit_own kq_BadRest_BadRest f3_BadRest tt_BadRest kq_BadRest_BadRest | 3, rfl => kit_own kq_BadRest_BadRest f3_BadNumber tt_BadNumber kq_BadRest_BadNumber | 4, rfl => kit_own kq_BadRest_BadRest f3_BadText tt_BadText kq_BadRest_BadText | 5, rfl => kit_own kq_BadRest_BadRest f3_NotFound tt_NotFound kq_BadRest_NotFound | (n + 6), h => nomatch h), kit_own kq_BadRest_BadRest f3_RainError tt_RainError kr_BadRest, kit_val kv_BadRest, PySem.W.exm_ref ee_RainError f3_RainError tt_RainError kr_BadRest⟩,
    e6_BadNumber := ⟨⟨f1_BadNumber, f2_BadNumber, ee_BadNumber, f3_BadNumber, f4_BadNumber, hn_, ht_, f6_BadNumber⟩, fun i C h => (match i, h with | 0, rfl => kit_own kq_BadNumber_BadNumber f3_BadRow tt_BadRow kq_BadNumber_BadRow | 1, rfl => kit_own kq_BadNumber_BadNumber f3_BadCycles tt_BadCycles kq_BadNumber_BadCycles | 2, rfl => kit_own kq_BadNumber_BadNumber f3_BadRest tt_BadRest kq_BadNumber_BadRest | 3, rfl => kit_own kq_BadNumber_BadNumber f3_BadNumber tt_BadNumber kq_BadNumber_BadNumber | 4, rfl => kit_own kq_BadNumber_BadNumber f3_BadText tt_BadText kq_BadNumber_BadText | 5, rfl => kit_own kq_BadNumber_BadNumber f3_NotFound tt_NotFound kq_BadNumber_NotFound | (n + 6), h => nomatch h), kit_own kq_BadNumber_BadNumber f3_RainError tt_RainError kr_BadNumber, kit_val kv_BadNumber, PySem.W.exm_ref ee_RainError f3_RainError tt_RainError kr_BadNumber⟩,
    e6_BadText := ⟨⟨f1_BadText, f2_BadText, ee_BadText, f3_BadText, f4_BadText, hn_, ht_, f6_BadText⟩, fun i C h => (match i, h with | 0, rfl => kit_own kq_BadText_BadText f3_BadRow tt_BadRow kq_BadText_BadRow | 1, rfl => kit_own kq_BadText_BadText f3_BadCycles tt_BadCycles kq_BadText_BadCycles | 2, rfl => kit_own kq_BadText_BadText f3_BadRest tt_BadRest kq_BadText_BadRest | 3, rfl => kit_own kq_BadText_BadText f3_BadNumber tt_BadNumber kq_BadText_BadNumber | 4, rfl => kit_own kq_BadText_BadText f3_BadText tt_BadText kq_BadText_BadText | 5, rfl => kit_own kq_BadText_BadText f3_NotFound tt_NotFound kq_BadText_NotFound | (n + 6), h => nomatch h), kit_own kq_BadText_BadText f3_RainError tt_RainError kr_BadText, kit_val kv_BadText, PySem.W.exm_ref ee_RainError f3_RainError tt_RainError kr_BadText⟩,
    e6_NotFound := ⟨⟨f1_NotFound, f2_NotFound, ee_NotFound, f3_NotFound, f4_NotFound, hn_, ht_, f6_NotFound⟩, fun i C h => (match i, h with | 0, rfl => kit_own kq_NotFound_NotFound f3_BadRow tt_BadRow kq_NotFound_BadRow | 1, rfl => kit_own kq_NotFound_NotFound f3_BadCycles tt_BadCycles kq_NotFound_BadCycles | 2, rfl => kit_own kq_NotFound_NotFound f3_BadRest tt_BadRest kq_NotFound_BadRest | 3, rfl => kit_own kq_NotFound_NotFound f3_BadNumber tt_BadNumber kq_NotFound_BadNumber | 4, rfl => kit_own kq_NotFound_NotFound f3_BadText tt_BadText kq_NotFound_BadText | 5, rfl => kit_own kq_NotFound_NotFound f3_NotFound tt_NotFound kq_NotFound_NotFound | (n + 6), h => nomatch h), kit_own kq_NotFound_NotFound f3_RainError tt_RainError kr_NotFound, kit_val kv_NotFound, PySem.W.exm_ref ee_RainError f3_RainError tt_RainError kr_NotFound⟩,
    z_ValueError := PySem.W.mg_none_of X G z_ValueError,
    z_all := PySem.W.mg_none_of X G z_all,
    z_bool := PySem.W.mg_none_of X G z_bool,
    z_int := PySem.W.mg_none_of X G z_int,
    z_isinstance := PySem.W.mg_none_of X G z_isinstance,
    z_len := PySem.W.mg_none_of X G z_len,
    z_list := PySem.W.mg_none_of X G z_list,
    z_max := PySem.W.mg_none_of X G z_max,
    z_min := PySem.W.mg_none_of X G z_min,
    z_range := PySem.W.mg_none_of X G z_range,
    z_sorted := PySem.W.mg_none_of X G z_sorted,
    z_str := PySem.W.mg_none_of X G z_str,
    z_tuple := PySem.W.mg_none_of X G z_tuple }
  exact ⟨T.d_law, fun s v => .of_eq rfl, fun base _ _ => ok_law T⟩
end Lw
open PySem PySem.W PyProof.Rows
set_option maxHeartbeats 0 in
theorem PySem.Challenge.cw_rainrows_k13_whole_texts_holds : PySem.Challenge.rw_rainrows_k13_whole_texts.Holds := by
  w_on; o_law; k_head; (case hw => w_witness2)
  k_fill
  refine L2.walk_of (l := PySem.Challenge.rw_rainrows_k13_whole_texts) (n := 63) (k := 7) (x := "script") (CX := fun _ => L2.CX0) (sp := fun w => Lw.sp_law _) rfl (by decide) rfl ⟨rfl, by decide, by decide⟩ (fun w h Y => PySem.W.kIn_of Y) ?F (fun _ _ a ns hl _ hS => ⟨a, ns, rfl, hS, hl, fun _ => rfl⟩) (fun _ _ _ _ _ h => h)
  case F =>
    intro w mg fa h KX G hmg
    refine' Lw.all_mk KX G hmg ?a_is_int ?l_is_int ?c_is_int ?k_is_int ?a_is_row ?l_is_row ?c_is_row ?k_is_row ?a_check_row ?l_check_row ?c_check_row ?k_check_row ?a_is_cycle ?l_is_cycle ?c_is_cycle ?k_is_cycle ?a_are_cycles ?l_are_cycles ?c_are_cycles ?k_are_cycles ?a_check_cycles ?l_check_cycles ?c_check_cycles ?k_check_cycles ?a_parse_number ?l_parse_number ?c_parse_number ?k_parse_number ?a_check_text ?l_check_text ?c_check_text ?k_check_text ?a_format_row ?l_format_row ?c_format_row ?k_format_row ?a_parse_row ?l_parse_row ?c_parse_row ?k_parse_row ?a_format_cycles ?l_format_cycles ?c_format_cycles ?k_format_cycles ?a_parse_cycles ?l_parse_cycles ?c_parse_cycles ?k_parse_cycles ?a__law_start ?l__law_start ?c__law_start ?k__law_start ?a__law_draw ?l__law_draw ?c__law_draw ?k__law_draw ?a__law_pick ?l__law_pick ?c__law_pick ?k__law_pick ?a__law_error ?l__law_error ?c__law_error ?k__law_error ?a__law_row ?l__law_row ?c__law_row ?k__law_row ?a__law_cycles ?l__law_cycles ?c__law_cycles ?k__law_cycles ?a__law_written ?l__law_written ?c__law_written ?k__law_written ?a__law_parsed ?l__law_parsed ?c__law_parsed ?k__law_parsed ?a__law_rejected ?l__law_rejected ?c__law_rejected ?k__law_rejected ?a_law ?l_law ?c_law ?k_law ?ga_RainError ?xx_RainError ?kk_RainError ?ee_RainError ?tt_RainError ?ga_BadRow ?xx_BadRow ?kk_BadRow ?ee_BadRow ?tt_BadRow ?ga_BadCycles ?xx_BadCycles ?kk_BadCycles ?ee_BadCycles ?tt_BadCycles ?ga_BadRest ?xx_BadRest ?kk_BadRest ?ee_BadRest ?tt_BadRest ?ga_BadNumber ?xx_BadNumber ?kk_BadNumber ?ee_BadNumber ?tt_BadNumber ?ga_BadText ?xx_BadText ?kk_BadText ?ee_BadText ?tt_BadText ?ga_NotFound ?xx_NotFound ?kk_NotFound ?ee_NotFound ?tt_NotFound ?q_MOST_VALUES ?q_MOST_VALUE ?q_MOST_CYCLES ?q_DIGITS ?hn_ ?ht_ ?f3_RainError ?f1_BadRow ?f2_BadRow ?f3_BadRow ?f4_BadRow ?f6_BadRow ?kq_BadRow_BadRow ?kq_BadRow_BadCycles ?kq_BadRow_BadRest ?kq_BadRow_BadNumber ?kq_BadRow_BadText ?kq_BadRow_NotFound ?kr_BadRow ?kv_BadRow ?f1_BadCycles ?f2_BadCycles ?f3_BadCycles ?f4_BadCycles ?f6_BadCycles ?kq_BadCycles_BadRow ?kq_BadCycles_BadCycles ?kq_BadCycles_BadRest ?kq_BadCycles_BadNumber ?kq_BadCycles_BadText ?kq_BadCycles_NotFound ?kr_BadCycles ?kv_BadCycles ?f1_BadRest ?f2_BadRest ?f3_BadRest ?f4_BadRest ?f6_BadRest ?kq_BadRest_BadRow ?kq_BadRest_BadCycles ?kq_BadRest_BadRest ?kq_BadRest_BadNumber ?kq_BadRest_BadText ?kq_BadRest_NotFound ?kr_BadRest ?kv_BadRest ?f1_BadNumber ?f2_BadNumber ?f3_BadNumber ?f4_BadNumber ?f6_BadNumber ?kq_BadNumber_BadRow ?kq_BadNumber_BadCycles ?kq_BadNumber_BadRest ?kq_BadNumber_BadNumber ?kq_BadNumber_BadText ?kq_BadNumber_NotFound ?kr_BadNumber ?kv_BadNumber ?f1_BadText ?f2_BadText ?f3_BadText ?f4_BadText ?f6_BadText ?kq_BadText_BadRow ?kq_BadText_BadCycles ?kq_BadText_BadRest ?kq_BadText_BadNumber ?kq_BadText_BadText ?kq_BadText_NotFound ?kr_BadText ?kv_BadText ?f1_NotFound ?f2_NotFound ?f3_NotFound ?f4_NotFound ?f6_NotFound ?kq_NotFound_BadRow ?kq_NotFound_BadCycles ?kq_NotFound_BadRest ?kq_NotFound_BadNumber ?kq_NotFound_BadText ?kq_NotFound_NotFound ?kr_NotFound ?kv_NotFound ?z_ValueError ?z_all ?z_bool ?z_int ?z_isinstance ?z_len ?z_list ?z_max ?z_min ?z_range ?z_sorted ?z_str ?z_tuple
    (case a_is_int => k_is)
    (case l_is_int => k_is)
    (case c_is_int => k_is)
    (case k_is_int => k_is)
    (case a_is_row => k_is)
    (case l_is_row => k_is)
    (case c_is_row => k_is)
    (case k_is_row => k_is)
    (case a_check_row => k_is)
    (case l_check_row => k_is)
    (case c_check_row => k_is)
    (case k_check_row => k_is)
    (case a_is_cycle => k_is)
    (case l_is_cycle => k_is)
    (case c_is_cycle => k_is)
    (case k_is_cycle => k_is)
    (case a_are_cycles => k_is)
    (case l_are_cycles => k_is)
    (case c_are_cycles => k_is)
    (case k_are_cycles => k_is)
    (case a_check_cycles => k_is)
    (case l_check_cycles => k_is)
    (case c_check_cycles => k_is)
    (case k_check_cycles => k_is)
    (case a_parse_number => k_is)
    (case l_parse_number => k_is)
    (case c_parse_number => k_is)
    (case k_parse_number => k_is)
    (case a_check_text => k_is)
    (case l_check_text => k_is)
    (case c_check_text => k_is)
    (case k_check_text => k_is)
    (case a_format_row => k_is)
    (case l_format_row => k_is)
    (case c_format_row => k_is)
    (case k_format_row => k_is)
    (case a_parse_row => k_is)
    (case l_parse_row => k_is)
    (case c_parse_row => k_is)
    (case k_parse_row => k_is)
    (case a_format_cycles => k_is)
    (case l_format_cycles => k_is)
    (case c_format_cycles => k_is)
    (case k_format_cycles => k_is)
    (case a_parse_cycles => k_is)
    (case l_parse_cycles => k_is)
    (case c_parse_cycles => k_is)
    (case k_parse_cycles => k_is)
    (case a__law_start => k_is)
    (case l__law_start => k_is)
    (case c__law_start => k_is)
    (case k__law_start => k_is)
    (case a__law_draw => k_is)
    (case l__law_draw => k_is)
    (case c__law_draw => k_is)
    (case k__law_draw => k_is)
    (case a__law_pick => k_is)
    (case l__law_pick => k_is)
    (case c__law_pick => k_is)
    (case k__law_pick => k_is)
    (case a__law_error => k_is)
    (case l__law_error => k_is)
    (case c__law_error => k_is)
    (case k__law_error => k_is)
    (case a__law_row => k_is)
    (case l__law_row => k_is)
    (case c__law_row => k_is)
    (case k__law_row => k_is)
    (case a__law_cycles => k_is)
    (case l__law_cycles => k_is)
    (case c__law_cycles => k_is)
    (case k__law_cycles => k_is)
    (case a__law_written => k_is)
    (case l__law_written => k_is)
    (case c__law_written => k_is)
    (case k__law_written => k_is)
    (case a__law_parsed => k_is)
    (case l__law_parsed => k_is)
    (case c__law_parsed => k_is)
    (case k__law_parsed => k_is)
    (case a__law_rejected => k_is)
    (case l__law_rejected => k_is)
    (case c__law_rejected => k_is)
    (case k__law_rejected => k_is)
    (case a_law => k_is)
    (case l_law => k_is)
    (case c_law => k_is)
    (case k_law => k_is)
    (case ga_RainError => k_is)
    (case xx_RainError => k_exc)
    (case kk_RainError => k_is)
    (case ee_RainError => k_is)
    (case tt_RainError => k_is)
    (case ga_BadRow => k_is)
    (case xx_BadRow => k_exc)
    (case kk_BadRow => k_is)
    (case ee_BadRow => k_is)
    (case tt_BadRow => k_is)
    (case ga_BadCycles => k_is)
    (case xx_BadCycles => k_exc)
    (case kk_BadCycles => k_is)
    (case ee_BadCycles => k_is)
    (case tt_BadCycles => k_is)
    (case ga_BadRest => k_is)
    (case xx_BadRest => k_exc)
    (case kk_BadRest => k_is)
    (case ee_BadRest => k_is)
    (case tt_BadRest => k_is)
    (case ga_BadNumber => k_is)
    (case xx_BadNumber => k_exc)
    (case kk_BadNumber => k_is)
    (case ee_BadNumber => k_is)
    (case tt_BadNumber => k_is)
    (case ga_BadText => k_is)
    (case xx_BadText => k_exc)
    (case kk_BadText => k_is)
    (case ee_BadText => k_is)
    (case tt_BadText => k_is)
    (case ga_NotFound => k_is)
    (case xx_NotFound => k_exc)
    (case kk_NotFound => k_is)
    (case ee_NotFound => k_is)
    (case tt_NotFound => k_is)
    (case q_MOST_VALUES => k_is)
    (case q_MOST_VALUE => k_is)
    (case q_MOST_CYCLES => k_is)
    (case q_DIGITS => k_is)
    (case hn_ => k_is)
    (case ht_ => k_is)
    (case f3_RainError => k_is)
    (case f1_BadRow => k_is)
    (case f2_BadRow => k_is)
    (case f3_BadRow => k_is)
    (case f4_BadRow => k_is)
    (case f6_BadRow => k_is)
    (case kq_BadRow_BadRow => k_is)
    (case kq_BadRow_BadCycles => k_is)
    (case kq_BadRow_BadRest => k_is)
    (case kq_BadRow_BadNumber => k_is)
    (case kq_BadRow_BadText => k_is)
    (case kq_BadRow_NotFound => k_is)
    (case kr_BadRow => k_is)
    (case kv_BadRow => k_is)
    (case f1_BadCycles => k_is)
    (case f2_BadCycles => k_is)
    (case f3_BadCycles => k_is)
    (case f4_BadCycles => k_is)
    (case f6_BadCycles => k_is)
    (case kq_BadCycles_BadRow => k_is)
    (case kq_BadCycles_BadCycles => k_is)
    (case kq_BadCycles_BadRest => k_is)
    (case kq_BadCycles_BadNumber => k_is)
    (case kq_BadCycles_BadText => k_is)
    (case kq_BadCycles_NotFound => k_is)
    (case kr_BadCycles => k_is)
    (case kv_BadCycles => k_is)
    (case f1_BadRest => k_is)
    (case f2_BadRest => k_is)
    (case f3_BadRest => k_is)
    (case f4_BadRest => k_is)
    (case f6_BadRest => k_is)
    (case kq_BadRest_BadRow => k_is)
    (case kq_BadRest_BadCycles => k_is)
    (case kq_BadRest_BadRest => k_is)
    (case kq_BadRest_BadNumber => k_is)
    (case kq_BadRest_BadText => k_is)
    (case kq_BadRest_NotFound => k_is)
    (case kr_BadRest => k_is)
    (case kv_BadRest => k_is)
    (case f1_BadNumber => k_is)
    (case f2_BadNumber => k_is)
    (case f3_BadNumber => k_is)
    (case f4_BadNumber => k_is)
    (case f6_BadNumber => k_is)
    (case kq_BadNumber_BadRow => k_is)
    (case kq_BadNumber_BadCycles => k_is)
    (case kq_BadNumber_BadRest => k_is)
    (case kq_BadNumber_BadNumber => k_is)
    (case kq_BadNumber_BadText => k_is)
    (case kq_BadNumber_NotFound => k_is)
    (case kr_BadNumber => k_is)
    (case kv_BadNumber => k_is)
    (case f1_BadText => k_is)
    (case f2_BadText => k_is)
    (case f3_BadText => k_is)
    (case f4_BadText => k_is)
    (case f6_BadText => k_is)
    (case kq_BadText_BadRow => k_is)
    (case kq_BadText_BadCycles => k_is)
    (case kq_BadText_BadRest => k_is)
    (case kq_BadText_BadNumber => k_is)
    (case kq_BadText_BadText => k_is)
    (case kq_BadText_NotFound => k_is)
    (case kr_BadText => k_is)
    (case kv_BadText => k_is)
    (case f1_NotFound => k_is)
    (case f2_NotFound => k_is)
    (case f3_NotFound => k_is)
    (case f4_NotFound => k_is)
    (case f6_NotFound => k_is)
    (case kq_NotFound_BadRow => k_is)
    (case kq_NotFound_BadCycles => k_is)
    (case kq_NotFound_BadRest => k_is)
    (case kq_NotFound_BadNumber => k_is)
    (case kq_NotFound_BadText => k_is)
    (case kq_NotFound_NotFound => k_is)
    (case kr_NotFound => k_is)
    (case kv_NotFound => k_is)
    (case z_ValueError => k_is)
    (case z_all => k_is)
    (case z_bool => k_is)
    (case z_int => k_is)
    (case z_isinstance => k_is)
    (case z_len => k_is)
    (case z_list => k_is)
    (case z_max => k_is)
    (case z_min => k_is)
    (case z_range => k_is)
    (case z_sorted => k_is)
    (case z_str => k_is)
    (case z_tuple => k_is)
