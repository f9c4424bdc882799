import PyProof.Rows.All
import Wide.All
import OpenK.AllK
import Wide.FinOn
import HandS.ForMost
import HandS.Wide
import HandS.Gcd
import HandS.IsInst
import HandS.Flow
import KE.KMathG
import Flt.RightSqrt
import HandS.Style
import PyProof.Rows.IntBool
import PyProof.FactsAll.bool
import PyProof.FString2
import HandS.Conv
import HandS.Defaults
import HandS.Head0
import HandS.Head1
import HandS.Head2
import HandS.Head3
import HandS.HeadEnd
import HandS.HeadHook1
import HandS.HeadHook2
import KE.IntBitsLaws
import HandS.Deep
import HandS.Text
import HandS.Iter
import PySem.Challenge.RW_whennumbersstop_k75_whole_polynomials_an
import HandS.Head3
set_option Elab.async false
set_option linter.all false
set_option maxRecDepth 100000
set_option exponentiation.threshold 20000
/-! A layer over the hand layer: slots hold data (or own lists), the heap is out of sight. -/
namespace DL
open PySem PySem.Spec PyProof.Rows L2
abbrev D := PyData
abbrev Fg := PySem.W.Frag

/-! ### data stay -/
theorem sqt_mono {K : Fg} {H H' : Hp} (e : Same H H') {a : Addr} {xs : List V} (h : SqT K H a xs) : SqT K H' a xs := by
  rcases h with (h | ⟨o, h⟩) | h
  · exact .inl (.inl (e _ _ h))
  · exact .inl (.inr ⟨o, e _ _ h⟩)
  · exact .inr h
mutual
theorem dp_mono {K : Fg} {H H' : Hp} (e : Same H H') : ∀ {d : D} {v : V}, Dp K H v d → Dp K H' v d
  | .none, _, h => by cases h; exact .non
  | .bool _, _, h => by cases h; exact .bl _
  | .int _, _, h => by cases h; exact .int _
  | .str _, _, h => by cases h; exact .str _
  | .list ds, _, h => by
    cases h with
    | lst a b => exact .lst (e.seq a) (dpa_mono e b)
  | .tuple ds, _, h => by
    cases h with
    | tup a b => exact .tup (sqt_mono e a) (dpa_mono e b)
  | .dict _, _, h => by cases h
theorem dpa_mono {K : Fg} {H H' : Hp} (e : Same H H') : ∀ {ds : List D} {vs : List V}, DpAll K H vs ds → DpAll K H' vs ds
  | [], _, h => by cases h; exact .nil
  | d :: ds, _, h => by
    cases h with
    | cons a b => exact .cons (dp_mono e a) (dpa_mono e b)
end
theorem dpa_len {K : Fg} {H : Hp} : ∀ {ds : List D} {vs : List V}, DpAll K H vs ds → vs.length = ds.length
  | [], _, h => by cases h; rfl
  | d :: ds, _, h => by
    cases h with
    | cons a b => exact congrArg (· + 1) (dpa_len b)
theorem dpa_get {K : Fg} {H : Hp} : ∀ {ds : List D} {vs : List V} {i : Nat} {d : D}, DpAll K H vs ds → ds[i]? = some d → ∃ v, vs[i]? = some v ∧ Dp K H v d
  | [], _, _, _, h, e => by simp at e
  | d :: ds, _, 0, d', h, e => by
    cases h with
    | cons a b => cases (show some d = some d' from e); exact ⟨_, rfl, a⟩
  | d :: ds, _, i + 1, d', h, e => by
    cases h with
    | cons a b => exact dpa_get (i := i) b e
theorem dpa_get' {K : Fg} {H : Hp} : ∀ {ds : List D} {vs : List V} {i : Nat} {v : V}, DpAll K H vs ds → vs[i]? = some v → ∃ d, ds[i]? = some d ∧ Dp K H v d
  | [], _, _, _, h, e => by cases h; simp at e
  | d :: ds, _, 0, v, h, e => by
    cases h with
    | cons a b => cases (show some _ = some v from e); exact ⟨_, rfl, a⟩
  | d :: ds, _, i + 1, v, h, e => by
    cases h with
    | cons a b => exact dpa_get' (i := i) b e
theorem dpa_app {K : Fg} {H : Hp} : ∀ {ds es : List D} {vs us : List V}, DpAll K H vs ds → DpAll K H us es → DpAll K H (vs ++ us) (ds ++ es)
  | [], _, _, _, h, g => by cases h; exact g
  | d :: ds, _, _, _, h, g => by
    cases h with
    | cons a b => exact .cons a (dpa_app b g)
theorem dpa_set {K : Fg} {H : Hp} {d : D} {v : V} (q : Dp K H v d) : ∀ {ds : List D} {vs : List V} {i : Nat}, DpAll K H vs ds → DpAll K H (vs.set i v) (ds.set i d)
  | [], _, _, h => by cases h; exact .nil
  | e :: ds, _, 0, h => by
    cases h with
    | cons a b => exact .cons q b
  | e :: ds, _, i + 1, h => by
    cases h with
    | cons a b => exact .cons a (dpa_set q b)
theorem dpa_take {K : Fg} {H : Hp} : ∀ {n : Nat} {ds : List D} {vs : List V}, DpAll K H vs ds → DpAll K H (vs.take n) (ds.take n)
  | 0, _, _, _ => .nil
  | n + 1, [], _, h => by cases h; exact .nil
  | n + 1, _ :: _, _, h => by
    cases h with
    | cons a b => exact .cons a (dpa_take b)
theorem dpa_drop {K : Fg} {H : Hp} : ∀ {n : Nat} {ds : List D} {vs : List V}, DpAll K H vs ds → DpAll K H (vs.drop n) (ds.drop n)
  | 0, _, _, h => by simpa using h
  | n + 1, [], _, h => by cases h; exact .nil
  | n + 1, _ :: _, _, h => by
    cases h with
    | cons a b => simpa using dpa_drop (n := n) b
theorem dpa_ints {K : Fg} {H : Hp} : ∀ (ns : List Int), DpAll K H (ns.map V.int) (ns.map PyData.int)
  | [] => .nil
  | n :: r => .cons (.int n) (dpa_ints r)
theorem dpa_bls {K : Fg} {H : Hp} : ∀ {bs : List Bool} {vs : List V}, DpAll K H vs (bs.map PyData.bool) → vs = bs.map V.bl
  | [], _, h => by cases h; rfl
  | b :: r, _, h => by
    cases h with
    | cons a q => cases a; rw [dpa_bls q]; rfl
theorem dpa_ints' {K : Fg} {H : Hp} : ∀ {ns : List Int} {vs : List V}, DpAll K H vs (ns.map PyData.int) → vs = ns.map V.int
  | [], _, h => by cases h; rfl
  | b :: r, _, h => by
    cases h with
    | cons a q => cases a; rw [dpa_ints' q]; rfl

/-! ### slots -/
inductive Sl where
  | no
  | va (d : D)
  | ce (a : Addr) (ds : List D)
def Cell (ρ : List Sl) (b : Addr) : Prop := ∃ (i : Nat) (ds : List D), ρ[i]? = some (.ce b ds)
structure EnvOk (K : Fg) (G H : Hp) (σ : L2.St) (ρ : List Sl) : Prop where
  sub : Same G H
  va : ∀ (i : Nat) (d : D), ρ[i]? = some (.va d) → ∃ v, σ[i]? = some (some v) ∧ Dp K G v d
  ce : ∀ (i : Nat) (a : Addr) (ds : List D), ρ[i]? = some (.ce a ds) → σ[i]? = some (some (.ref a)) ∧ G a = none ∧ ∃ vs, H a = some (.lst vs) ∧ DpAll K G vs ds
  dj : ∀ (i j : Nat) (a : Addr) (ds es : List D), ρ[i]? = some (.ce a ds) → ρ[j]? = some (.ce a es) → i = j
  len : σ.length = ρ.length
/-- from (G, H) on: known things stay, others but the own lists stay, what is known anew was not there, or was an own list -/
structure Step (ρ : List Sl) (G H : Hp) (ρ' : List Sl) (G' H' : Hp) : Prop where
  g : Same G G'
  fr : ∀ b o, H b = some o → ¬ Cell ρ b → H' b = some o
  dom : ∀ b, H' b = none → H b = none
  nw : ∀ b o, G' b = some o → G b = some o ∨ H b = none ∨ Cell ρ b
  cl : ∀ b, Cell ρ' b → Cell ρ b ∨ H b = none
theorem Step.refl (ρ : List Sl) (G H : Hp) : Step ρ G H ρ G H := ⟨.refl G, fun _ _ h _ => h, fun _ h => h, fun _ _ h => .inl h, fun _ h => .inl h⟩
theorem Step.trans {ρ ρ1 ρ2 : List Sl} {G G1 G2 H H1 H2 : Hp} (a : Step ρ G H ρ1 G1 H1) (b : Step ρ1 G1 H1 ρ2 G2 H2) : Step ρ G H ρ2 G2 H2 where
  g := a.g.trans b.g
  fr := fun x o h c => b.fr x o (a.fr x o h c) fun z => by
    rcases a.cl x z with z | z
    · exact c z
    · rw [z] at h; cases h
  dom := fun x h => a.dom x (b.dom x h)
  nw := fun x o h => by
    rcases b.nw x o h with h | h | h
    · exact a.nw x o h
    · exact .inr (.inl (a.dom x h))
    · rcases a.cl x h with h | h
      · exact .inr (.inr h)
      · exact .inr (.inl h)
  cl := fun x h => by
    rcases b.cl x h with h | h
    · exact a.cl x h
    · exact .inr (a.dom x h)
/-- nothing is changed, new things are known -/
structure Grow (G H G' H' : Hp) : Prop where
  g : Same G G'
  h : Same H H'
  s : Same G' H'
  nw : ∀ b o, G' b = some o → G b = some o ∨ H b = none
theorem Grow.refl {G H : Hp} (e : Same G H) : Grow G H G H := ⟨.refl G, .refl H, e, fun _ _ h => .inl h⟩
theorem none_back {H H' : Hp} (e : Same H H') {b : Addr} (h : H' b = none) : H b = none := e.free h
theorem Grow.trans {G H G1 H1 G2 H2 : Hp} (a : Grow G H G1 H1) (b : Grow G1 H1 G2 H2) : Grow G H G2 H2 :=
  ⟨a.g.trans b.g, a.h.trans b.h, b.s, fun x o h => by
    rcases b.nw x o h with h | h
    · exact a.nw x o h
    · exact .inr (none_back a.h h)⟩
theorem Grow.new {G H : Hp} (e : Same G H) {p : Addr} (hp : H p = none) (o : HO) : Grow G H (upd G p o) (upd H p o) := by
  have gp : G p = none := none_back e hp
  refine ⟨fun b u h => ?_, fun b u h => ?_, fun b u h => ?_, fun b u h => ?_⟩
  · rw [upd_ne (ne_of_none h gp)]; exact h
  · rw [upd_ne (ne_of_none h hp)]; exact h
  · by_cases z : b = p
    · subst z; rw [upd_same] at h ⊢; exact h
    · rw [upd_ne z] at h ⊢; exact e _ _ h
  · by_cases z : b = p
    · subst z; exact .inr hp
    · rw [upd_ne z] at h; exact .inl h
section
variable {K : Fg} {G H G' H' : Hp} {σ σ' : L2.St} {ρ ρ' : List Sl}
theorem EnvOk.grow (e : EnvOk K G H σ ρ) (g : Grow G H G' H') : EnvOk K G' H' σ ρ where
  sub := g.s
  va := fun i d h => let ⟨v, a, b⟩ := e.va i d h; ⟨v, a, dp_mono g.g b⟩
  ce := fun i a ds h => by
    obtain ⟨h1, h2, vs, h3, h4⟩ := e.ce i a ds h
    refine ⟨h1, ?_, vs, g.h _ _ h3, dpa_mono g.g h4⟩
    cases q : G' a with
    | none => rfl
    | some o =>
      rcases g.nw a o q with z | z
      · rw [h2] at z; cases z
      · rw [h3] at z; cases z
  dj := e.dj
  len := e.len
theorem Grow.step (g : Grow G H G' H') : Step ρ G H ρ G' H' :=
  ⟨g.g, fun b o h _ => g.h b o h, fun b h => none_back g.h h, fun b o h => (g.nw b o h).elim .inl (.inr ∘ .inl), fun _ h => .inl h⟩
theorem cell_lt {i : Nat} {a : Addr} {ds : List D} (h : ρ[i]? = some (.ce a ds)) : Cell ρ a := ⟨i, ds, h⟩
/-- a slot takes a value -/
theorem EnvOk.set (e : EnvOk K G H σ ρ) (i : Nat) {v : V} {d : D} (h : Dp K G v d) : EnvOk K G H (σ.set i (some v)) (ρ.set i (.va d)) where
  sub := e.sub
  va := fun j d' q => by
    by_cases z : i = j
    · subst z
      by_cases l : i < ρ.length
      · rw [List.getElem?_set_self l] at q
        cases q
        exact ⟨v, by rw [List.getElem?_set_self (by rw [e.len]; exact l)], h⟩
      · rw [List.getElem?_eq_none_iff.mpr (by rw [List.length_set]; omega)] at q
        cases q
    · rw [List.getElem?_set_ne z] at q ⊢
      exact e.va j d' q
  ce := fun j a ds q => by
    by_cases z : i = j
    · subst z
      by_cases l : i < ρ.length
      · rw [List.getElem?_set_self l] at q; cases q
      · rw [List.getElem?_eq_none_iff.mpr (by rw [List.length_set]; omega)] at q
        cases q
    · rw [List.getElem?_set_ne z] at q ⊢
      exact e.ce j a ds q
  dj := fun j k a ds es q r => by
    have hj : i ≠ j := fun z => by
      subst z
      by_cases l : i < ρ.length
      · rw [List.getElem?_set_self l] at q; cases q
      · rw [List.getElem?_eq_none_iff.mpr (by rw [List.length_set]; omega)] at q; cases q
    have hk : i ≠ k := fun z => by
      subst z
      by_cases l : i < ρ.length
      · rw [List.getElem?_set_self l] at r; cases r
      · rw [List.getElem?_eq_none_iff.mpr (by rw [List.length_set]; omega)] at r; cases r
    rw [List.getElem?_set_ne hj] at q
    rw [List.getElem?_set_ne hk] at r
    exact e.dj j k a ds es q r
  len := by rw [List.length_set, List.length_set]; exact e.len
theorem cell_set {i : Nat} {d : D} {b : Addr} (h : Cell (ρ.set i (.va d)) b) : Cell ρ b := by
  obtain ⟨j, ds, h⟩ := h
  by_cases z : i = j
  · subst z
    by_cases l : i < ρ.length
    · rw [List.getElem?_set_self l] at h; cases h
    · rw [List.getElem?_eq_none_iff.mpr (by rw [List.length_set]; omega)] at h; cases h
  · rw [List.getElem?_set_ne z] at h
    exact ⟨j, ds, h⟩
theorem Step.set (s : Step ρ G H ρ' G' H') (i : Nat) (d : D) : Step ρ G H (ρ'.set i (.va d)) G' H' :=
  ⟨s.g, s.fr, s.dom, s.nw, fun b h => s.cl b (cell_set h)⟩
end

/-! ### what an expression comes to -/
section
variable (K : Fg)
def DE (te : TE) (ρ : List Sl) (Q : D → List Sl → Prop) : Prop :=
  ∀ (σ : L2.St) (G H : Hp), EnvOk K G H σ ρ → ∀ T : VK, (∀ v d ρ' G' H', Q d ρ' → Step ρ G H ρ' G' H' → EnvOk K G' H' σ ρ' → Dp K G' v d → T v H') → te σ H T
def DT (tt : TT) (ρ : List Sl) (Q : Bool → List Sl → Prop) : Prop :=
  ∀ (σ : L2.St) (G H : Hp), EnvOk K G H σ ρ → ∀ T : Bool → Hp → Prop, (∀ b ρ' G' H', Q b ρ' → Step ρ G H ρ' G' H' → EnvOk K G' H' σ ρ' → T b H') → tt σ H T
def DA (ta : TA) (ρ : List Sl) (Q : List D → List Sl → Prop) : Prop :=
  ∀ (σ : L2.St) (G H : Hp), EnvOk K G H σ ρ → ∀ T : List V → Hp → Prop, (∀ vs ds ρ' G' H', Q ds ρ' → Step ρ G H ρ' G' H' → EnvOk K G' H' σ ρ' → DpAll K G' vs ds → T vs H') → ta σ H T
/-- one value, nothing changed -/
def DP (te : TE) (ρ : List Sl) (d : D) : Prop :=
  ∀ (σ : L2.St) (G H : Hp), EnvOk K G H σ ρ → ∀ T : VK, (∀ v G' H', Grow G H G' H' → Dp K G' v d → T v H') → te σ H T
def DTP (tt : TT) (ρ : List Sl) (b : Bool) : Prop :=
  ∀ (σ : L2.St) (G H : Hp), EnvOk K G H σ ρ → ∀ T : Bool → Hp → Prop, (∀ G' H', Grow G H G' H' → T b H') → tt σ H T
def DAP (ta : TA) (ρ : List Sl) (ds : List D) : Prop :=
  ∀ (σ : L2.St) (G H : Hp), EnvOk K G H σ ρ → ∀ T : List V → Hp → Prop, (∀ vs G' H', Grow G H G' H' → DpAll K G' vs ds → T vs H') → ta σ H T
/-- operations on values -/
def R2D (r : R2) (d e : D) (Q : D → Prop) : Prop := ∀ (G H : Hp) (x y : V), Same G H → Dp K G x d → Dp K G y e → ∀ T : VK, (∀ v f G' H', Q f → Grow G H G' H' → Dp K G' v f → T v H') → r x y H T
def R1D (r : V → Hp → VK → Prop) (d : D) (Q : D → Prop) : Prop := ∀ (G H : Hp) (x : V), Same G H → Dp K G x d → ∀ T : VK, (∀ v f G' H', Q f → Grow G H G' H' → Dp K G' v f → T v H') → r x H T
def RCD (r : List V → Hp → VK → Prop) (ds : List D) (Q : D → Prop) : Prop := ∀ (G H : Hp) (vs : List V), Same G H → DpAll K G vs ds → ∀ T : VK, (∀ v f G' H', Q f → Grow G H G' H' → Dp K G' v f → T v H') → r vs H T
end
section
variable {K : Fg} {ρ ρ1 : List Sl} {ta tb te tc : TE} {t u : TT} {d e f : D} {r r' : R2} {Q : D → List Sl → Prop}
theorem DE.mono {Q' : D → List Sl → Prop} (h : DE K te ρ Q) (k : ∀ d ρ', Q d ρ' → Q' d ρ') : DE K te ρ Q' := fun σ G H E T q => h σ G H E T fun v d ρ' G' H' z => q v d ρ' G' H' (k d ρ' z)
theorem DT.mono {Q Q' : Bool → List Sl → Prop} (h : DT K t ρ Q) (k : ∀ d ρ', Q d ρ' → Q' d ρ') : DT K t ρ Q' := fun σ G H E T q => h σ G H E T fun d ρ' G' H' z => q d ρ' G' H' (k d ρ' z)
theorem DE.of (h : DP K te ρ d) (q : Q d ρ) : DE K te ρ Q := fun σ G H E T k => h σ G H E T fun v G' H' g dv => k v d ρ G' H' q g.step (E.grow g) dv
theorem DT.of {b : Bool} {Q : Bool → List Sl → Prop} (h : DTP K t ρ b) (q : Q b ρ) : DT K t ρ Q := fun σ G H E T k => h σ G H E T fun G' H' g => k b ρ G' H' q g.step (E.grow g)
theorem DP.is (h : DP K te ρ d) (q : d = e) : DP K te ρ e := by rw [← q]; exact h
theorem DTP.is {b c : Bool} (h : DTP K t ρ b) (q : b = c) : DTP K t ρ c := by rw [← q]; exact h
theorem DA.of {ta : TA} {ds : List D} {Q : List D → List Sl → Prop} (h : DAP K ta ρ ds) (q : Q ds ρ) : DA K ta ρ Q := fun σ G H E T k => h σ G H E T fun vs G' H' g dv => k vs ds ρ G' H' q g.step (E.grow g) dv

theorem dp_var {i : Nat} (h : ρ[i]? = some (.va d)) : DP K (tVar i) ρ d := fun σ G H E T k => by
  obtain ⟨v, a, b⟩ := E.va i d h
  exact ⟨v, a, k v G H (.refl E.sub) b⟩
theorem de_var {i : Nat} (h : ρ[i]? = some (.va d)) (q : Q d ρ) : DE K (tVar i) ρ Q := DE.of (dp_var h) q
theorem dp_c {v : V} (h : ∀ G, Dp K G v d) : DP K (tC v) ρ d := fun σ G H E T k => k v G H (.refl E.sub) (h G)
theorem dp_int {i : Int} : DP K (tC (.int i)) ρ (.int i) := dp_c fun _ => .int i
theorem dp_bl {b : Bool} : DP K (tC (.bl b)) ρ (.bool b) := dp_c fun _ => .bl b
theorem dp_non : DP K (tC .non) ρ .none := dp_c fun _ => .non
theorem dp_str {x : Str} : DP K (tC (.str x)) ρ (.str x) := dp_c fun _ => .str x

theorem de_op (ha : DE K ta ρ fun d ρ1 => DE K tb ρ1 fun e ρ2 => R2D K r d e fun f => Q f ρ2) : DE K (tOp r ta tb) ρ Q := fun σ G H E T k =>
  ha σ G H E _ fun v d ρ1 G1 H1 hb s1 E1 dv => hb σ G1 H1 E1 _ fun u e ρ2 G2 H2 hr s2 E2 du => hr G2 H2 v u E2.sub (dp_mono s2.g dv) du _ fun z f G3 H3 q g dz => k z f ρ2 G3 H3 q ((s1.trans s2).trans g.step) (E2.grow g) dz
theorem dp_op (ha : DP K ta ρ d) (hb : DP K tb ρ e) (hr : R2D K r d e fun g => g = f) : DP K (tOp r ta tb) ρ f := fun σ G H E T k =>
  ha σ G H E _ fun v G1 H1 g1 dv => hb σ G1 H1 (E.grow g1) _ fun u G2 H2 g2 du => hr G2 H2 v u g2.s (dp_mono g2.g dv) du _ fun z f' G3 H3 q g3 dz => by subst q; exact k z G3 H3 ((g1.trans g2).trans g3) dz
theorem de_un {r : V → Hp → VK → Prop} (ha : DE K ta ρ fun d ρ1 => R1D K r d fun f => Q f ρ1) : DE K (tUn r ta) ρ Q := fun σ G H E T k =>
  ha σ G H E _ fun v d ρ1 G1 H1 hr s1 E1 dv => hr G1 H1 v E1.sub dv _ fun z f G3 H3 q g dz => k z f ρ1 G3 H3 q (s1.trans g.step) (E1.grow g) dz
theorem dp_un {r : V → Hp → VK → Prop} (ha : DP K ta ρ d) (hr : R1D K r d fun g => g = f) : DP K (tUn r ta) ρ f := fun σ G H E T k =>
  ha σ G H E _ fun v G1 H1 g1 dv => hr G1 H1 v g1.s dv _ fun z f' G3 H3 q g3 dz => by subst q; exact k z G3 H3 (g1.trans g3) dz
theorem de_cb {r : List V → Hp → VK → Prop} {ta : TA} (ha : DA K ta ρ fun ds ρ1 => RCD K r ds fun f => Q f ρ1) : DE K (tCB r ta) ρ Q := fun σ G H E T k =>
  ha σ G H E _ fun vs ds ρ1 G1 H1 hr s1 E1 dv => hr G1 H1 vs E1.sub dv _ fun z f G3 H3 q g dz => k z f ρ1 G3 H3 q (s1.trans g.step) (E1.grow g) dz
theorem dp_cb {r : List V → Hp → VK → Prop} {ta : TA} {ds : List D} (ha : DAP K ta ρ ds) (hr : RCD K r ds fun g => g = f) : DP K (tCB r ta) ρ f := fun σ G H E T k =>
  ha σ G H E _ fun v G1 H1 g1 dv => hr G1 H1 v g1.s dv _ fun z f' G3 H3 q g3 dz => by subst q; exact k z G3 H3 (g1.trans g3) dz
theorem da_nil {Q : List D → List Sl → Prop} (q : Q [] ρ) : DA K tNil ρ Q := fun σ G H E T k => k [] [] ρ G H q (.refl _ _ _) E .nil
theorem dap_nil : DAP K tNil ρ [] := fun σ G H E T k => k [] G H (.refl E.sub) .nil
theorem da_cons {tr : TA} {Q : List D → List Sl → Prop} (ha : DE K ta ρ fun d ρ1 => DA K tr ρ1 fun ds ρ2 => Q (d :: ds) ρ2) : DA K (tCons ta tr) ρ Q := fun σ G H E T k =>
  ha σ G H E _ fun v d ρ1 G1 H1 hr s1 E1 dv => hr σ G1 H1 E1 _ fun vs ds ρ2 G2 H2 q s2 E2 dvs => k (v :: vs) (d :: ds) ρ2 G2 H2 q (s1.trans s2) E2 (.cons (dp_mono s2.g dv) dvs)
theorem dap_cons {tr : TA} {ds : List D} (ha : DP K ta ρ d) (hr : DAP K tr ρ ds) : DAP K (tCons ta tr) ρ (d :: ds) := fun σ G H E T k =>
  ha σ G H E _ fun v G1 H1 g1 dv => hr σ G1 H1 (E.grow g1) _ fun vs G2 H2 g2 dvs => k (v :: vs) G2 H2 (g1.trans g2) (.cons (dp_mono g2.g dv) dvs)
/-- a new tuple, a new list -/
theorem de_tup {ta : TA} (ha : DA K ta ρ fun ds ρ1 => ds.length ≤ sizeLine ∧ Q (.tuple ds) ρ1) : DE K (tTup ta) ρ Q := fun σ G H E T k =>
  ha σ G H E _ fun vs ds ρ1 G1 H1 ⟨hl, q⟩ s1 E1 dv => ⟨by rw [dpa_len dv]; exact hl, fun p hp => by
    have g := Grow.new E1.sub hp (.tup vs)
    exact k (.ref p) (.tuple ds) ρ1 _ _ q (s1.trans g.step) (E1.grow g) (.tup (.of upd_same) (dpa_mono g.g dv))⟩
theorem dp_tup {ta : TA} {ds : List D} (ha : DAP K ta ρ ds) (hl : ds.length ≤ sizeLine := by first | decide | (simp; decide)) : DP K (tTup ta) ρ (.tuple ds) := fun σ G H E T k =>
  ha σ G H E _ fun vs G1 H1 g1 dv => ⟨by rw [dpa_len dv]; exact hl, fun p hp => by
    have g := Grow.new g1.s hp (.tup vs)
    exact k (.ref p) _ _ (g1.trans g) (.tup (.of upd_same) (dpa_mono g.g dv))⟩
theorem de_lst {ta : TA} (ha : DA K ta ρ fun ds ρ1 => ds.length ≤ sizeLine ∧ Q (.list ds) ρ1) : DE K (tLst ta) ρ Q := fun σ G H E T k =>
  ha σ G H E _ fun vs ds ρ1 G1 H1 ⟨hl, q⟩ s1 E1 dv => ⟨by rw [dpa_len dv]; exact hl, fun p hp => by
    have g := Grow.new E1.sub hp (.lst vs)
    exact k (.ref p) (.list ds) ρ1 _ _ q (s1.trans g.step) (E1.grow g) (.lst (.of upd_same) (dpa_mono g.g dv))⟩
theorem dp_lst {ta : TA} {ds : List D} (ha : DAP K ta ρ ds) (hl : ds.length ≤ sizeLine := by first | decide | (simp; decide)) : DP K (tLst ta) ρ (.list ds) := fun σ G H E T k =>
  ha σ G H E _ fun vs G1 H1 g1 dv => ⟨by rw [dpa_len dv]; exact hl, fun p hp => by
    have g := Grow.new g1.s hp (.lst vs)
    exact k (.ref p) _ _ (g1.trans g) (.lst (.of upd_same) (dpa_mono g.g dv))⟩
/-! ### tests -/
theorem dt_test {Q : Bool → List Sl → Prop} (h : DE K te ρ fun d ρ1 => ∃ b, d = .bool b ∧ Q b ρ1) : DT K (tTest te) ρ Q := fun σ G H E T k =>
  h σ G H E _ fun v d ρ1 G1 H1 ⟨b, e, q⟩ s1 E1 dv => by subst e; cases dv; exact ⟨b, rfl, k b ρ1 G1 H1 q s1 E1⟩
theorem dtp_test {b : Bool} (h : DP K te ρ (.bool b)) : DTP K (tTest te) ρ b := fun σ G H E T k =>
  h σ G H E _ fun v G1 H1 g dv => by cases dv; exact ⟨b, rfl, k G1 H1 g⟩
theorem dt_B {Q : Bool → List Sl → Prop} (h : DE K te ρ fun d ρ1 => ∃ b, d = .bool b ∧ Q b ρ1) : DT K (tB te) ρ Q := fun σ G H E T k =>
  h σ G H E _ fun v d ρ1 G1 H1 ⟨b, e, q⟩ s1 E1 dv => by subst e; cases dv; exact ⟨b, rfl, k b ρ1 G1 H1 q s1 E1⟩
theorem dtp_B {b : Bool} (h : DP K te ρ (.bool b)) : DTP K (tB te) ρ b := fun σ G H E T k =>
  h σ G H E _ fun v G1 H1 g dv => by cases dv; exact ⟨b, rfl, k G1 H1 g⟩
theorem dt_not {Q : Bool → List Sl → Prop} (h : DT K t ρ fun b ρ1 => Q (!b) ρ1) : DT K (tNot t) ρ Q := fun σ G H E T k =>
  h σ G H E _ fun b ρ1 G1 H1 q s1 E1 => k (!b) ρ1 G1 H1 q s1 E1
theorem dtp_not {b : Bool} (h : DTP K t ρ b) : DTP K (tNot t) ρ (!b) := fun σ G H E T k => h σ G H E _ fun G1 H1 g => k G1 H1 g
theorem dt_and {Q : Bool → List Sl → Prop} (h : DT K t ρ fun b ρ1 => if b = true then DT K u ρ1 Q else Q false ρ1) : DT K (tAnd t u) ρ Q := fun σ G H E T k =>
  h σ G H E _ fun b ρ1 G1 H1 q s1 E1 => by
    cases b with
    | true => exact iteT ((by simpa using q : DT K u ρ1 Q) σ G1 H1 E1 _ fun c ρ2 G2 H2 q2 s2 E2 => k c ρ2 G2 H2 q2 (s1.trans s2) E2)
    | false => exact iteF (k false ρ1 G1 H1 (by simpa using q) s1 E1)
theorem dt_or {Q : Bool → List Sl → Prop} (h : DT K t ρ fun b ρ1 => if b = true then Q true ρ1 else DT K u ρ1 Q) : DT K (tOr t u) ρ Q := fun σ G H E T k =>
  h σ G H E _ fun b ρ1 G1 H1 q s1 E1 => by
    cases b with
    | false => exact iteF ((by simpa using q : DT K u ρ1 Q) σ G1 H1 E1 _ fun c ρ2 G2 H2 q2 s2 E2 => k c ρ2 G2 H2 q2 (s1.trans s2) E2)
    | true => exact iteT (k true ρ1 G1 H1 (by simpa using q) s1 E1)
theorem dtp_and {a b : Bool} (h : DTP K t ρ a) (h2 : a = true → DTP K u ρ b) : DTP K (tAnd t u) ρ (a && b) := fun σ G H E T k =>
  h σ G H E _ fun G1 H1 g => by
    cases a with
    | true => exact iteT (h2 rfl σ G1 H1 (E.grow g) _ fun G2 H2 g2 => k G2 H2 (g.trans g2))
    | false => exact iteF (k G1 H1 g)
theorem dtp_or {a b : Bool} (h : DTP K t ρ a) (h2 : a = false → DTP K u ρ b) : DTP K (tOr t u) ρ (a || b) := fun σ G H E T k =>
  h σ G H E _ fun G1 H1 g => by
    cases a with
    | false => exact iteF (h2 rfl σ G1 H1 (E.grow g) _ fun G2 H2 g2 => k G2 H2 (g.trans g2))
    | true => exact iteT (k G1 H1 g)
theorem de_andV (h : DE K ta ρ fun d ρ1 => ∃ b, d = .bool b ∧ if b = true then DE K tb ρ1 Q else Q (.bool false) ρ1) : DE K (tAndV ta tb) ρ Q := fun σ G H E T k =>
  h σ G H E _ fun v d ρ1 G1 H1 ⟨b, e, q⟩ s1 E1 dv => by
    subst e; cases dv
    refine ⟨b, rfl, ?_⟩
    cases b with
    | true => exact iteT ((by simpa using q : DE K tb ρ1 Q) σ G1 H1 E1 _ fun v2 c ρ2 G2 H2 q2 s2 E2 => k v2 c ρ2 G2 H2 q2 (s1.trans s2) E2)
    | false => exact iteF (k (.bl false) (.bool false) ρ1 G1 H1 (by simpa using q) s1 E1 (.bl false))
theorem de_orV (h : DE K ta ρ fun d ρ1 => ∃ b, d = .bool b ∧ if b = true then Q (.bool true) ρ1 else DE K tb ρ1 Q) : DE K (tOrV ta tb) ρ Q := fun σ G H E T k =>
  h σ G H E _ fun v d ρ1 G1 H1 ⟨b, e, q⟩ s1 E1 dv => by
    subst e; cases dv
    refine ⟨b, rfl, ?_⟩
    cases b with
    | false => exact iteF ((by simpa using q : DE K tb ρ1 Q) σ G1 H1 E1 _ fun v2 c ρ2 G2 H2 q2 s2 E2 => k v2 c ρ2 G2 H2 q2 (s1.trans s2) E2)
    | true => exact iteT (k (.bl true) (.bool true) ρ1 G1 H1 (by simpa using q) s1 E1 (.bl true))
theorem dp_andV {a b : Bool} (h : DP K ta ρ (.bool a)) (h2 : a = true → DP K tb ρ (.bool b)) : DP K (tAndV ta tb) ρ (.bool (a && b)) := fun σ G H E T k =>
  h σ G H E _ fun v G1 H1 g dv => by
    cases dv
    refine ⟨a, rfl, ?_⟩
    cases a with
    | true => exact iteT (h2 rfl σ G1 H1 (E.grow g) _ fun v2 G2 H2 g2 d2 => k v2 G2 H2 (g.trans g2) d2)
    | false => exact iteF (k (.bl false) G1 H1 g (.bl false))
theorem dp_orV {a b : Bool} (h : DP K ta ρ (.bool a)) (h2 : a = false → DP K tb ρ (.bool b)) : DP K (tOrV ta tb) ρ (.bool (a || b)) := fun σ G H E T k =>
  h σ G H E _ fun v G1 H1 g dv => by
    cases dv
    refine ⟨a, rfl, ?_⟩
    cases a with
    | false => exact iteF (h2 rfl σ G1 H1 (E.grow g) _ fun v2 G2 H2 g2 d2 => k v2 G2 H2 (g.trans g2) d2)
    | true => exact iteT (k (.bl true) G1 H1 g (.bl true))
theorem dp_notV {a : Bool} (h : DP K ta ρ (.bool a)) : DP K (tNotV ta) ρ (.bool (!a)) := fun σ G H E T k =>
  h σ G H E _ fun v G1 H1 g dv => by
    cases dv
    exact ⟨a, rfl, k (.bl (!a)) G1 H1 g (.bl _)⟩
theorem de_if (h : DT K t ρ fun b ρ1 => if b = true then DE K ta ρ1 Q else DE K tb ρ1 Q) : DE K (tIf t ta tb) ρ Q := fun σ G H E T k =>
  h σ G H E _ fun b ρ1 G1 H1 q s1 E1 => by
    cases b with
    | true => exact iteT ((by simpa using q : DE K ta ρ1 Q) σ G1 H1 E1 _ fun v2 c ρ2 G2 H2 q2 s2 E2 => k v2 c ρ2 G2 H2 q2 (s1.trans s2) E2)
    | false => exact iteF ((by simpa using q : DE K tb ρ1 Q) σ G1 H1 E1 _ fun v2 c ρ2 G2 H2 q2 s2 E2 => k v2 c ρ2 G2 H2 q2 (s1.trans s2) E2)
theorem dp_if {b : Bool} (h : DTP K t ρ b) (h1 : b = true → DP K ta ρ d) (h2 : b = false → DP K tb ρ d) : DP K (tIf t ta tb) ρ d := fun σ G H E T k =>
  h σ G H E _ fun G1 H1 g => by
    cases b with
    | true => exact iteT (h1 rfl σ G1 H1 (E.grow g) _ fun v2 G2 H2 g2 d2 => k v2 G2 H2 (g.trans g2) d2)
    | false => exact iteF (h2 rfl σ G1 H1 (E.grow g) _ fun v2 G2 H2 g2 d2 => k v2 G2 H2 (g.trans g2) d2)
/-- by a proposition -/
theorem dp_ite {p : Prop} [Decidable p] (h : DTP K t ρ (decide p)) (h1 : p → DP K ta ρ d) (h2 : ¬ p → DP K tb ρ e) : DP K (tIf t ta tb) ρ (if p then d else e) := by
  by_cases z : p
  · rw [if_pos z]
    exact dp_if h (fun _ => h1 z) (fun y => absurd z (of_decide_eq_false y))
  · rw [if_neg z]
    exact dp_if h (fun y => absurd (of_decide_eq_true y) z) (fun _ => h2 z)
/-- a < b < c -/
theorem dp_chain {a b : Bool} {x y z : D} (ha : DP K ta ρ x) (hb : DP K tb ρ y) (hr : R2D K r x y fun g => g = .bool a) (hc : a = true → DP K tc ρ z) (hr' : a = true → R2D K r' y z fun g => g = .bool b) : DP K (tChain r r' ta tb tc) ρ (.bool (a && b)) := fun σ G H E T k =>
  ha σ G H E _ fun v G1 H1 g1 dv => by
    have E1 := E.grow g1
    refine hb σ G1 H1 E1 _ fun w G2 H2 g2 dw => ?_
    refine hr G2 H2 v w g2.s (dp_mono g2.g dv) dw _ fun q f G3 H3 e g dq => ?_
    subst e
    cases dq
    refine ⟨a, rfl, ?_⟩
    have E3 := (E1.grow g2).grow g
    cases a with
    | true =>
      refine iteT (hc rfl σ G3 H3 E3 _ fun u G4 H4 g4 du => ?_)
      exact hr' rfl G4 H4 w u g4.s (dp_mono g4.g (dp_mono g.g dw)) du _ fun q f G5 H5 e g5 dq => by subst e; exact k q G5 H5 ((((g1.trans g2).trans g).trans g4).trans g5) dq
    | false => exact iteF (k (.bl false) G3 H3 ((g1.trans g2).trans g) (.bl false))
end
end DL

/-! Statements, loops, comprehensions, defs over data. -/
namespace DL
open PySem PySem.Spec PyProof.Rows L2

structure Po where
  nx : List Sl → Prop
  rt : D → List Sl → Prop
  bk : List Sl → Prop := fun _ => False
  ct : List Sl → Prop := fun _ => False
  /-- a fresh list is handed back, not yet known -/
  rn : List D → List Sl → Prop := fun _ _ => False
/-- the wanted ends follow from P -/
structure Zo (K : Fg) (Z : Ends) (P : Po) (ρ : List Sl) (G H : Hp) : Prop where
  nx : ∀ σ' ρ' G' H', P.nx ρ' → Step ρ G H ρ' G' H' → EnvOk K G' H' σ' ρ' → Z.nx σ' H'
  rt : ∀ v d σ' ρ' G' H', P.rt d ρ' → Step ρ G H ρ' G' H' → EnvOk K G' H' σ' ρ' → Dp K G' v d → Z.rt v H'
  bk : ∀ σ' ρ' G' H', P.bk ρ' → Step ρ G H ρ' G' H' → EnvOk K G' H' σ' ρ' → Z.bk σ' H'
  ct : ∀ σ' ρ' G' H', P.ct ρ' → Step ρ G H ρ' G' H' → EnvOk K G' H' σ' ρ' → Z.ct σ' H'
  rn : ∀ p ds vs σ' ρ' G' H', P.rn ds ρ' → Step ρ G H ρ' G' H' → EnvOk K G' H' σ' ρ' → H p = none → G' p = none → H' p = some (.lst vs) → ¬ Cell ρ' p → DpAll K G' vs ds → Z.rt (.ref p) H'
def DS (K : Fg) (ts : TS) (ρ : List Sl) (P : Po) : Prop := ∀ (σ : L2.St) (G H : Hp) (Z : Ends), EnvOk K G H σ ρ → Zo K Z P ρ G H → ts Z σ H
def DG (K : Fg) (g : TG) (d : D) (ρ : List Sl) (Q : List Sl → Prop) : Prop :=
  ∀ (σ : L2.St) (G H : Hp) (v : V), EnvOk K G H σ ρ → Dp K G v d → ∀ T : L2.St → Hp → Prop, (∀ σ' ρ' G' H', Q ρ' → Step ρ G H ρ' G' H' → EnvOk K G' H' σ' ρ' → T σ' H') → g v σ H T
def DGs (K : Fg) (g : TGs) (ds : List D) (ρ : List Sl) (Q : List Sl → Prop) : Prop :=
  ∀ (σ : L2.St) (G H : Hp) (vs : List V), EnvOk K G H σ ρ → DpAll K G vs ds → ∀ T : L2.St → Hp → Prop, (∀ σ' ρ' G' H', Q ρ' → Step ρ G H ρ' G' H' → EnvOk K G' H' σ' ρ' → T σ' H') → g vs σ H T
section
variable {K : Fg} {ρ ρ1 : List Sl} {ta tb te : TE} {c : TT} {t u tu tw rest : TS} {d : D} {P : Po}
theorem Zo.step {Z : Ends} {G H G1 H1 : Hp} (z : Zo K Z P ρ G H) (s : Step ρ G H ρ1 G1 H1) : Zo K Z P ρ1 G1 H1 where
  nx := fun σ' ρ' G' H' p s' e => z.nx σ' ρ' G' H' p (s.trans s') e
  rt := fun v d σ' ρ' G' H' p s' e => z.rt v d σ' ρ' G' H' p (s.trans s') e
  bk := fun σ' ρ' G' H' p s' e => z.bk σ' ρ' G' H' p (s.trans s') e
  ct := fun σ' ρ' G' H' p s' e => z.ct σ' ρ' G' H' p (s.trans s') e
  rn := fun p ds vs σ' ρ' G' H' q s' e hp gp h1 nc dv => z.rn p ds vs σ' ρ' G' H' q (s.trans s') e (s.dom p hp) gp h1 nc dv
theorem ds_seq (h : DS K t ρ { P with nx := fun ρ' => DS K u ρ' P }) : DS K (tSeq t u) ρ P := fun σ G H Z E z =>
  h σ G H { Z with nx := u Z } E { nx := fun σ' ρ' G' H' p s e => p σ' G' H' Z e (z.step s), rt := z.rt, bk := z.bk, ct := z.ct, rn := z.rn }
theorem ds_next (h : P.nx ρ) : DS K tNext ρ P := fun σ G H Z E z => z.nx σ ρ G H h (.refl _ _ _) E
theorem ds_brk (h : P.bk ρ) : DS K tBreak ρ P := fun σ G H Z E z => z.bk σ ρ G H h (.refl _ _ _) E
theorem ds_cont (h : P.ct ρ) : DS K tCont ρ P := fun σ G H Z E z => z.ct σ ρ G H h (.refl _ _ _) E
theorem ds_drop (h : DE K te ρ fun _ ρ1 => P.nx ρ1) : DS K (tDrop te) ρ P := fun σ G H Z E z =>
  h σ G H E _ fun v d ρ1 G1 H1 q s e _ => z.nx σ ρ1 G1 H1 q s e
theorem ds_ret (h : DE K te ρ P.rt) : DS K (tRet te) ρ P := fun σ G H Z E z =>
  h σ G H E _ fun v d ρ1 G1 H1 q s e dv => z.rt v d σ ρ1 G1 H1 q s e dv
theorem ds_retp (h : DP K te ρ d) (q : P.rt d ρ) : DS K (tRet te) ρ P := ds_ret (DE.of h q)
theorem ds_retN (h : P.rt .none ρ) : DS K tRetN ρ P := fun σ G H Z E z => z.rt .non .none σ ρ G H h (.refl _ _ _) E .non
theorem ds_if (h : DT K c ρ fun b ρ1 => if b = true then DS K tu ρ1 P else DS K tw ρ1 P) : DS K (tIfS c tu tw) ρ P := fun σ G H Z E z =>
  h σ G H E _ fun b ρ1 G1 H1 q s e => by
    cases b with
    | true => exact iteT ((by simpa using q : DS K tu ρ1 P) σ G1 H1 Z e (z.step s))
    | false => exact iteF ((by simpa using q : DS K tw ρ1 P) σ G1 H1 Z e (z.step s))
theorem ds_ifp {b : Bool} (h : DTP K c ρ b) (h1 : b = true → DS K tu ρ P) (h2 : b = false → DS K tw ρ P) : DS K (tIfS c tu tw) ρ P := ds_if (DT.of h (by
  cases b with
  | true => exact iteT (h1 rfl)
  | false => exact iteF (h2 rfl)))
theorem ds_never (h : False) : DS K tNever ρ P := h.elim
theorem ds_weak {P' : Po} (h : DS K t ρ P') (n : ∀ ρ', P'.nx ρ' → P.nx ρ') (r : ∀ d ρ', P'.rt d ρ' → P.rt d ρ') (b : ∀ ρ', P'.bk ρ' → P.bk ρ') (k : ∀ ρ', P'.ct ρ' → P.ct ρ') (rn : ∀ d ρ', P'.rn d ρ' → P.rn d ρ') : DS K t ρ P := fun σ G H Z E z =>
  h σ G H Z E ⟨fun _ _ _ _ p => z.nx _ _ _ _ (n _ p), fun _ _ _ _ _ _ p => z.rt _ _ _ _ _ _ (r _ _ p), fun _ _ _ _ p => z.bk _ _ _ _ (b _ p), fun _ _ _ _ p => z.ct _ _ _ _ (k _ p), fun _ _ _ _ _ _ _ p => z.rn _ _ _ _ _ _ _ (rn _ _ p)⟩
theorem dg_name {i : Nat} {Q : List Sl → Prop} (h : Q (ρ.set i (.va d))) : DG K (gName i) d ρ Q := fun σ G H v E dv T k =>
  k (σ.set i (some v)) _ G H h ((Step.refl ρ G H).set i d) (E.set i dv)
theorem dgs_nil {Q : List Sl → Prop} (h : Q ρ) : DGs K gNil [] ρ Q := fun σ G H vs E dv T k => by
  cases dv
  exact ⟨rfl, k σ ρ G H h (.refl _ _ _) E⟩
theorem dgs_cons {g : TG} {gs : TGs} {ds : List D} {Q : List Sl → Prop} (h : DG K g d ρ fun ρ1 => DGs K gs ds ρ1 Q) : DGs K (gCons g gs) (d :: ds) ρ Q := fun σ G H vs E dv T k => by
  cases dv with
  | cons a b => exact ⟨_, _, rfl, h σ G H _ E a _ fun σ1 ρ1 G1 H1 q s e => q σ1 G1 H1 _ e (dpa_mono s.g b) T fun σ2 ρ2 G2 H2 q2 s2 e2 => k σ2 ρ2 G2 H2 q2 (s.trans s2) e2⟩
theorem dg_tup {gs : TGs} {n : Nat} {ds : List D} {Q : List Sl → Prop} (h : DGs K gs ds ρ Q) (hn : ds.length = n := by rfl) : DG K (gTup K n gs) (.tuple ds) ρ Q := fun σ G H v E dv T k => by
  cases dv with
  | tup a b => exact ⟨_, _, rfl, sqt_mono E.sub a, by rw [dpa_len b]; exact hn, h σ G H _ E b T k⟩
theorem ds_asg {g : TG} (h : DE K te ρ fun d ρ1 => DG K g d ρ1 P.nx) : DS K (tAsg te g) ρ P := fun σ G H Z E z =>
  h σ G H E _ fun v d ρ1 G1 H1 q s e dv => q σ G1 H1 v e dv _ fun σ2 ρ2 G2 H2 q2 s2 e2 => z.nx σ2 ρ2 G2 H2 q2 (s.trans s2) e2
/-- x = e; the rest -/
theorem ds_let {i : Nat} (h : DP K te ρ d) (k : DS K rest (ρ.set i (.va d)) P) : DS K (tSeq (tAsg te (gName i)) rest) ρ P := ds_seq (ds_asg (DE.of h (dg_name k)))
theorem ds_letE {i : Nat} (h : DE K te ρ fun d ρ1 => DS K rest (ρ1.set i (.va d)) P) : DS K (tSeq (tAsg te (gName i)) rest) ρ P := ds_seq (ds_asg (h.mono fun _ _ k => dg_name k))
theorem ds_letG {g : TG} (h : DP K te ρ d) (k : DG K g d ρ fun ρ1 => DS K rest ρ1 P) : DS K (tSeq (tAsg te g) rest) ρ P := ds_seq (ds_asg (DE.of h k))
theorem ds_when {b : Bool} (h : DTP K c ρ b) (h1 : b = true → DS K tu ρ { P with nx := fun ρ' => DS K rest ρ' P }) (h2 : b = false → DS K rest ρ P) : DS K (tSeq (tIfS c tu tNext) rest) ρ P :=
  ds_seq (ds_ifp h h1 fun e => ds_next (h2 e))
theorem ds_ifq {p : Prop} [Decidable p] (h : DTP K c ρ (decide p)) (h1 : p → DS K tu ρ P) (h2 : ¬ p → DS K tw ρ P) : DS K (tIfS c tu tw) ρ P :=
  ds_ifp h (fun e => h1 (of_decide_eq_true e)) (fun e => h2 (of_decide_eq_false e))
theorem ds_whenq {p : Prop} [Decidable p] (h : DTP K c ρ (decide p)) (h1 : p → DS K tu ρ { P with nx := fun ρ' => DS K rest ρ' P }) (h2 : ¬ p → DS K rest ρ P) : DS K (tSeq (tIfS c tu tNext) rest) ρ P :=
  ds_when h (fun e => h1 (of_decide_eq_true e)) (fun e => h2 (of_decide_eq_false e))
/-- a, b = e, f -/
theorem ds_par {i j : Nat} {ta : TA} (h : DA K ta ρ fun ds ρ1 => ∃ d e, ds = [d, e] ∧ P.nx ((ρ1.set i (.va d)).set j (.va e))) : DS K (tPar i j ta) ρ P := fun σ G H Z E z =>
  h σ G H E _ fun vs ds ρ1 G1 H1 ⟨d, e, q, p⟩ s E1 dv => by
    subst q
    cases dv with
    | cons a b => cases b with
      | cons b c => cases c; exact ⟨_, _, rfl, z.nx _ _ G1 H1 p ((s.set i d).set j e) ((E1.set i a).set j b)⟩
theorem ds_parp {i j : Nat} {d e : D} {ta : TA} (h : DAP K ta ρ [d, e]) (k : DS K rest ((ρ.set i (.va d)).set j (.va e)) P) : DS K (tSeq (tPar i j ta) rest) ρ P := ds_seq (ds_par (DA.of h ⟨d, e, rfl, k⟩))

/-! ### while -/
theorem ds_while {S : Type} (f : S → List Sl) (J : S → Prop) (m : S → Nat) (s0 : S) (e0 : ρ = f s0) (h0 : J s0)
    {tb' : TS} (hs : ∀ s, J s → DT K c (f s) fun b ρ2 => if b = true then DS K tb' ρ2 ⟨fun ρ3 => ∃ s', ρ3 = f s' ∧ J s' ∧ m s' < m s, P.rt, P.nx, fun ρ3 => ∃ s', ρ3 = f s' ∧ J s' ∧ m s' < m s, P.rn⟩ else P.nx ρ2) : DS K (tWhile c tb') ρ P := fun σ G H Z E z => by
  refine ⟨fun k σ1 H1 => ∃ s G1, m s = k ∧ J s ∧ Step ρ G H (f s) G1 H1 ∧ EnvOk K G1 H1 σ1 (f s), ⟨m s0, s0, G, rfl, h0, e0 ▸ .refl _ _ _, e0 ▸ E⟩, ?_⟩
  rintro k σ1 H1 ⟨s, G1, rfl, j, st, E1⟩
  refine hs s j σ1 G1 H1 E1 _ fun b ρ2 G2 H2 q s2 E2 => ?_
  cases b with
  | true =>
    refine iteT ?_
    rw [if_pos rfl] at q
    have s12 := st.trans s2
    refine ⟨fun σ' H' => ∃ s' G', J s' ∧ m s' < m s ∧ Step ρ G H (f s') G' H' ∧ EnvOk K G' H' σ' (f s'), fun σ' H' ⟨s', G', a, b, c, d⟩ => ⟨m s', b, s', G', rfl, a, c, d⟩, ?_⟩
    refine q σ1 G2 H2 _ E2 ⟨?_, ?_, ?_, ?_, fun p ds vs σ' ρ' G' H' q s3 e3 hp gp h1 nc dv => z.rn p ds vs σ' ρ' G' H' q (s12.trans s3) e3 (s12.dom p hp) gp h1 nc dv⟩
    · rintro σ' ρ' G' H' ⟨s', rfl, a, b⟩ s3 e3
      exact ⟨s', G', a, b, s12.trans s3, e3⟩
    · intro v d σ' ρ' G' H' p s3 e3 dv
      exact z.rt v d σ' ρ' G' H' p (s12.trans s3) e3 dv
    · intro σ' ρ' G' H' p s3 e3
      exact z.nx σ' ρ' G' H' p (s12.trans s3) e3
    · rintro σ' ρ' G' H' ⟨s', rfl, a, b⟩ s3 e3
      exact ⟨s', G', a, b, s12.trans s3, e3⟩
  | false => exact iteF (z.nx σ1 ρ2 G2 H2 (by simpa using q) (st.trans s2) E2)

/-! ### what is walked -/
structure ItOk (K : Fg) (G : Hp) (J : It) (ds : List D) : Prop where
  go : ∀ (i : Nat) (d : D) (G' H' : Hp), ds[i]? = some d → Same G G' → Same G' H' → J.go i H' ∧ ∀ x H2, J.yld i H' x H2 → ∃ G2, Grow G' H' G2 H2 ∧ Dp K G2 x d
  stop : ∀ (G' H' : Hp), Same G G' → Same G' H' → J.stop ds.length H'
theorem ItOk.mono {G G' : Hp} {J : It} {ds : List D} (h : ItOk K G J ds) (e : Same G G') : ItOk K G' J ds :=
  ⟨fun i d G1 H1 q a b => h.go i d G1 H1 q (e.trans a) b, fun G1 H1 a b => h.stop G1 H1 (e.trans a) b⟩
def DI (K : Fg) (wi : TI) (ρ : List Sl) (Q : List D → List Sl → Prop) : Prop :=
  ∀ (σ : L2.St) (G H : Hp), EnvOk K G H σ ρ → ∀ R : It → Hp → Prop, (∀ J ds ρ' G' H', Q ds ρ' → Step ρ G H ρ' G' H' → EnvOk K G' H' σ ρ' → ItOk K G' J ds → R J H') → wi σ H R
theorem DI.mono {wi : TI} {Q Q' : List D → List Sl → Prop} (h : DI K wi ρ Q) (k : ∀ ds ρ', Q ds ρ' → Q' ds ρ') : DI K wi ρ Q' := fun σ G H E R q => h σ G H E R fun J ds ρ' G' H' z => q J ds ρ' G' H' (k ds ρ' z)
theorem di_rng1 {ta : TA} {Q : List D → List Sl → Prop} (h : DA K ta ρ fun ds ρ1 => ∃ n : Int, ds = [.int n] ∧ -(2 ^ 62) ≤ n ∧ n < 2 ^ 62 ∧ Q ((List.range n.toNat).map fun i : Nat => PyData.int (i : Int)) ρ1) : DI K (iRng1 ta) ρ Q := fun σ G H E R k =>
  h σ G H E _ fun vs ds ρ1 G1 H1 ⟨n, e, a, b, q⟩ s E1 dv => by
    subst e
    cases dv with
    | cons x y =>
      cases x; cases y
      refine ⟨n, rfl, a, b, k _ _ ρ1 G1 H1 q s E1 ⟨fun i d G' H' e a b => ?_, fun G' H' a b => ?_⟩⟩
      · have hi : i < n.toNat := by
          have := (List.getElem?_eq_some_iff.mp e).1
          rw [List.length_map, List.length_range] at this
          exact this
        refine ⟨hi, fun x H2 y => ?_⟩
        obtain ⟨rfl, rfl⟩ := y
        refine ⟨G', .refl b, ?_⟩
        rw [List.getElem?_map, List.getElem?_range hi] at e
        cases e
        rw [Int.zero_add]
        exact .int _
      · show n.toNat ≤ _
        rw [List.length_map, List.length_range]
        exact Nat.le_refl _
theorem di_rng2 {ta : TA} {Q : List D → List Sl → Prop} (h : DA K ta ρ fun ds ρ1 => ∃ m n : Int, ds = [.int m, .int n] ∧ (-(2 ^ 62) ≤ m ∧ m < 2 ^ 62 ∧ -(2 ^ 62) ≤ n ∧ n < 2 ^ 62) ∧ Q ((List.range (n - m).toNat).map fun i : Nat => PyData.int (m + (i : Int))) ρ1) : DI K (iRng2 ta) ρ Q := fun σ G H E R k =>
  h σ G H E _ fun vs ds ρ1 G1 H1 ⟨m, n, e, a, q⟩ s E1 dv => by
    subst e
    cases dv with
    | cons x y =>
      cases y with
      | cons y z =>
        cases x; cases y; cases z
        refine ⟨m, n, rfl, a, k _ _ ρ1 G1 H1 q s E1 ⟨fun i d G' H' e a b => ?_, fun G' H' a b => ?_⟩⟩
        · have hi : i < (n - m).toNat := by
            have := (List.getElem?_eq_some_iff.mp e).1
            rw [List.length_map, List.length_range] at this
            exact this
          refine ⟨hi, fun x H2 y => ?_⟩
          obtain ⟨rfl, rfl⟩ := y
          refine ⟨G', .refl b, ?_⟩
          rw [List.getElem?_map, List.getElem?_range hi] at e
          cases e
          exact .int _
        · show (n - m).toNat ≤ _
          rw [List.length_map, List.length_range]
          exact Nat.le_refl _
theorem di_list {tl : TE} {Q : List D → List Sl → Prop} (h : DE K tl ρ fun d ρ1 => ∃ ds, d = .list ds ∧ Q ds ρ1) : DI K (iList K tl) ρ Q := fun σ G H E R k =>
  h σ G H E _ fun v d ρ1 G1 H1 ⟨ds, e, q⟩ s E1 dv => by
    subst e
    cases dv with
    | @lst a vs _ x y =>
      refine ⟨a, rfl, ⟨vs, E1.sub.seq x⟩, k _ ds ρ1 G1 H1 q s E1 ⟨fun i d G' H' e a b => ?_, fun G' H' a b => ⟨vs, b.seq (a.seq x), Nat.le_of_eq (dpa_len y)⟩⟩⟩
      obtain ⟨v, e1, e2⟩ := dpa_get y e
      refine ⟨⟨vs, v, b.seq (a.seq x), e1⟩, fun z H2 w => ?_⟩
      obtain ⟨rfl, w⟩ := w
      cases e1.symm.trans (w vs (b.seq (a.seq x)))
      exact ⟨G', .refl b, dp_mono a e2⟩
theorem di_tup {tl : TE} {Q : List D → List Sl → Prop} (h : DE K tl ρ fun d ρ1 => ∃ ds, d = .tuple ds ∧ Q ds ρ1) : DI K (iTup K tl) ρ Q := fun σ G H E R k =>
  h σ G H E _ fun v d ρ1 G1 H1 ⟨ds, e, q⟩ s E1 dv => by
    subst e
    cases dv with
    | @tup a vs _ x y =>
      refine ⟨a, rfl, ⟨vs, sqt_mono E1.sub x⟩, k _ ds ρ1 G1 H1 q s E1 ⟨fun i d G' H' e a b => ?_, fun G' H' a b => ⟨vs, sqt_mono b (sqt_mono a x), Nat.le_of_eq (dpa_len y)⟩⟩⟩
      obtain ⟨v, e1, e2⟩ := dpa_get y e
      refine ⟨⟨vs, v, sqt_mono b (sqt_mono a x), e1⟩, fun z H2 w => ?_⟩
      obtain ⟨rfl, w⟩ := w
      cases e1.symm.trans (w vs (sqt_mono b (sqt_mono a x)))
      exact ⟨G', .refl b, dp_mono a e2⟩
/-- for g in ..: I by the turn -/
theorem ds_for {wi : TI} {g : TG} {tb : TS} (I : List D → Nat → List Sl → Prop) (h : DI K wi ρ fun ds ρ1 => I ds 0 ρ1 ∧
    (∀ i d ρ2, ds[i]? = some d → I ds i ρ2 → DG K g d ρ2 fun ρ3 => DS K tb ρ3 ⟨I ds (i + 1), P.rt, P.nx, I ds (i + 1), P.rn⟩) ∧ ∀ ρ2, I ds ds.length ρ2 → P.nx ρ2) : DS K (tFor wi g tb) ρ P := fun σ G H Z E z =>
  h σ G H E _ fun J ds ρ1 G1 H1 ⟨q0, qs, qd⟩ s1 E1 it => by
    refine ⟨fun i m σ2 H2 => m = ds.length - i ∧ i ≤ ds.length ∧ ∃ ρ2 G2, I ds i ρ2 ∧ Step ρ G H ρ2 G2 H2 ∧ Same G1 G2 ∧ EnvOk K G2 H2 σ2 ρ2, ⟨ds.length, by simp, Nat.zero_le _, ρ1, G1, q0, s1, .refl _, E1⟩, ?_⟩
    rintro i m σ2 H2 ⟨rfl, hi, ρ2, G2, a, b, c, d⟩
    by_cases hlt : i < ds.length
    · obtain ⟨e1, e2⟩ := it.go i ds[i] G2 H2 (List.getElem?_eq_getElem hlt) c d.sub
      refine .inr ⟨e1, fun σ' H' => ∃ ρ' G', I ds (i + 1) ρ' ∧ Step ρ G H ρ' G' H' ∧ Same G1 G' ∧ EnvOk K G' H' σ' ρ', fun σ' H' ⟨ρ', G', x⟩ => ⟨ds.length - (i + 1), by omega, rfl, hlt, ρ', G', x⟩, fun x H3 y => ?_⟩
      obtain ⟨G3, gr, dx⟩ := e2 x H3 y
      have s3 := b.trans gr.step
      have E3 := d.grow gr
      refine qs i ds[i] ρ2 (List.getElem?_eq_getElem hlt) a σ2 G3 H3 x E3 dx _ fun σ4 ρ4 G4 H4 q4 s4 E4 => ?_
      have c4 : Same G1 G4 := (c.trans gr.g).trans s4.g
      refine q4 σ4 G4 H4 _ E4 ⟨?_, ?_, ?_, ?_, fun p ds vs σ' ρ' G' H' q s5 e5 hp gp h1 nc dv => z.rn p ds vs σ' ρ' G' H' q ((s3.trans s4).trans s5) e5 ((s3.trans s4).dom p hp) gp h1 nc dv⟩
      · intro σ' ρ' G' H' p s5 e5
        exact ⟨ρ', G', p, (s3.trans s4).trans s5, c4.trans s5.g, e5⟩
      · intro v d σ' ρ' G' H' p s5 e5 dv
        exact z.rt v d σ' ρ' G' H' p ((s3.trans s4).trans s5) e5 dv
      · intro σ' ρ' G' H' p s5 e5
        exact z.nx σ' ρ' G' H' p ((s3.trans s4).trans s5) e5
      · intro σ' ρ' G' H' p s5 e5
        exact ⟨ρ', G', p, (s3.trans s4).trans s5, c4.trans s5.g, e5⟩
    · have e : i = ds.length := by omega
      subst e
      exact .inl ⟨it.stop G2 H2 c d.sub, z.nx σ2 ρ2 G2 H2 (qd ρ2 a) b d⟩
end

/-! ### comprehensions -/
def wipeS (ρ : List Sl) : List Nat → List Sl
  | [] => ρ
  | v :: vs => (wipeS ρ vs).set v .no
theorem wipeS_length (ρ : List Sl) : ∀ vs : List Nat, (wipeS ρ vs).length = ρ.length
  | [] => rfl
  | v :: vs => by unfold wipeS; rw [List.length_set, wipeS_length ρ vs]
theorem wipeS_some {ρ : List Sl} {i : Nat} {x : Sl} (hx : ∃ d, x = .va d ∨ ∃ a, ∃ ds, x = .ce a ds) : ∀ {vs : List Nat}, (wipeS ρ vs)[i]? = some x → ρ[i]? = some x ∧ i ∉ vs
  | [], h => ⟨h, by simp⟩
  | v :: vs, h => by
    unfold wipeS at h
    by_cases hi : v = i
    · subst hi
      by_cases hv : v < (wipeS ρ vs).length
      · rw [List.getElem?_set_self hv] at h; obtain ⟨d, z | ⟨a, ds, z⟩⟩ := hx <;> (subst z; cases h)
      · rw [List.getElem?_eq_none (by simpa using hv)] at h; cases h
    · rw [List.getElem?_set_ne hi] at h
      obtain ⟨h1, h2⟩ := wipeS_some hx h
      exact ⟨h1, by simp only [List.mem_cons, not_or]; exact ⟨fun e => hi e.symm, h2⟩⟩
section
variable {K : Fg} {ρ ρ1 : List Sl} {ta tb te : TE} {tt : TT}
/-- a block's store stays within its own names -/
def GW (g : TG) (vs : List Nat) : Prop := ∀ v σ H (T : L2.St → Hp → Prop), g v σ H (fun σ2 H2 => wipe σ2 vs = wipe σ vs → T σ2 H2) → g v σ H fun σ2 H2 => wipe σ2 vs = wipe σ vs ∧ T σ2 H2
theorem wipe_set {σ : L2.St} {j : Nat} {x : Option V} : ∀ {vs : List Nat}, j ∈ vs → wipe (σ.set j x) vs = wipe σ vs
  | v :: vs, h => by
    unfold wipe
    by_cases hj : j ∈ vs
    · rw [wipe_set hj]
    · have e : j = v := by
        rcases List.mem_cons.mp h with e | h
        · exact e
        · exact absurd h hj
      subst e
      have key : ∀ (us : List Nat) (y : Option V), j ∉ us → (wipe (σ.set j x) us) = (wipe σ us).set j x := by
        intro us y hu
        induction us with
        | nil => rfl
        | cons u us ih =>
          have h1 : u ≠ j := fun e => hu (by rw [e]; exact List.mem_cons_self)
          have h2 : j ∉ us := fun m => hu (List.mem_cons_of_mem _ m)
          unfold wipe
          rw [ih h2, List.set_comm _ _ h1.symm]
      rw [key vs none hj, List.set_set]
theorem gw_name {j : Nat} {vs : List Nat} (h : j ∈ vs := by decide) : GW (gName j) vs := fun v σ H T k => ⟨wipe_set h, k (wipe_set h)⟩
def GWs (g : TGs) (vs : List Nat) : Prop := ∀ us σ H (T : L2.St → Hp → Prop), g us σ H (fun σ2 H2 => wipe σ2 vs = wipe σ vs → T σ2 H2) → g us σ H fun σ2 H2 => wipe σ2 vs = wipe σ vs ∧ T σ2 H2
theorem gws_nil {vs : List Nat} : GWs gNil vs := fun us σ H T k => ⟨k.1, rfl, k.2 rfl⟩
theorem gws_cons {j : Nat} {gs : TGs} {vs : List Nat} (hj : j ∈ vs) (h : GWs gs vs) : GWs (gCons (gName j) gs) vs := fun us σ H T k => by
  obtain ⟨v, r, e, q⟩ := k
  refine ⟨v, r, e, ?_⟩
  have e2 : wipe (σ.set j (some v)) vs = wipe σ vs := wipe_set hj
  have q2 := h r (σ.set j (some v)) H T (by rw [e2]; exact q)
  rw [e2] at q2
  exact q2
theorem gw_tup {K : Fg} {n : Nat} {gs : TGs} {vs : List Nat} (h : GWs gs vs) : GW (gTup K n gs) vs := fun v σ H T k => by
  obtain ⟨a, xs, e, hs, hl, q⟩ := k
  exact ⟨a, xs, e, hs, hl, h xs σ H T q⟩
theorem EnvOk.wiped {G H : Hp} {σ σ2 : L2.St} {vs : List Nat} (E : EnvOk K G H σ ρ) (hw : ∀ i, i ∉ vs → σ2[i]? = σ[i]?) (hl : σ2.length = σ.length) : EnvOk K G H σ2 (wipeS ρ vs) where
  sub := E.sub
  va := fun i d h => by
    obtain ⟨a, b⟩ := wipeS_some ⟨d, .inl rfl⟩ h
    rw [hw i b]; exact E.va i d a
  ce := fun i p ds h => by
    obtain ⟨a, b⟩ := wipeS_some ⟨.none, .inr ⟨p, ds, rfl⟩⟩ h
    rw [hw i b]; exact E.ce i p ds a
  dj := fun i j p ds es h k => E.dj i j p ds es (wipeS_some ⟨.none, .inr ⟨p, ds, rfl⟩⟩ h).1 (wipeS_some ⟨.none, .inr ⟨p, es, rfl⟩⟩ k).1
  len := by rw [wipeS_length, hl]; exact E.len
theorem cell_wipe {vs : List Nat} {b : Addr} (h : Cell (wipeS ρ vs) b) : Cell ρ b := by
  obtain ⟨i, ds, h⟩ := h
  exact ⟨i, ds, (wipeS_some ⟨.none, .inr ⟨b, ds, rfl⟩⟩ h).1⟩
/-- a fresh list, not yet known: its items are -/
def DN (K : Fg) (te : TE) (ρ : List Sl) (Q : List D → List Sl → Prop) : Prop :=
  ∀ (σ : L2.St) (G H : Hp), EnvOk K G H σ ρ → ∀ T : VK, (∀ p ds vs ρ' G' H', Q ds ρ' → Step ρ G H ρ' G' H' → EnvOk K G' H' σ ρ' → H p = none → G' p = none → H' p = some (.lst vs) → ¬ Cell ρ' p → DpAll K G' vs ds → T (.ref p) H') → te σ H T
theorem de_new {Q : D → List Sl → Prop} (h : DN K te ρ fun ds ρ1 => Q (.list ds) ρ1) : DE K te ρ Q := fun σ G H E T k =>
  h σ G H E T fun p ds vs ρ1 G1 H1 q s E1 hp gp h1 nc dv => by
    have sm : Same G1 (upd G1 p (.lst vs)) := fun b o hb => by
      rw [upd_ne (ne_of_none hb gp)]; exact hb
    refine k (.ref p) (.list ds) ρ1 (upd G1 p (.lst vs)) H1 q ⟨s.g.trans sm, s.fr, s.dom, fun b o hb => ?_, s.cl⟩ ⟨fun b o hb => ?_, fun i d hi => ?_, fun i a es hi => ?_, E1.dj, E1.len⟩ (.lst (.of upd_same) (dpa_mono sm dv))
    · by_cases z : b = p
      · subst z; exact .inr (.inl hp)
      · rw [upd_ne z] at hb; exact s.nw b o hb
    · by_cases z : b = p
      · subst z; rw [upd_same] at hb; rw [h1]; exact hb
      · rw [upd_ne z] at hb; exact E1.sub b o hb
    · obtain ⟨v, a, b⟩ := E1.va i d hi
      exact ⟨v, a, dp_mono sm b⟩
    · obtain ⟨a1, a2, us, a3, a4⟩ := E1.ce i a es hi
      refine ⟨a1, ?_, us, a3, dpa_mono sm a4⟩
      rw [upd_ne (fun z => nc ⟨i, es, by rw [← z]; exact hi⟩)]
      exact a2
/-- [e for g in .. if ..] -/
theorem dn_lc {wi : TI} {g : TG} {vs : List Nat} {Q : List D → List Sl → Prop} (I : List D → Nat → List D → List Sl → Prop) (hg : GW g vs) (h : DI K wi ρ fun ds ρ1 => ds.length < sizeLine ∧ I ds 0 [] ρ1 ∧
    (∀ i d acc ρ2, ds[i]? = some d → I ds i acc ρ2 → DG K g d (wipeS ρ2 vs) fun ρ3 => DT K tt ρ3 fun b ρ4 => if b = true then DE K te ρ4 fun e ρ5 => I ds (i + 1) (acc ++ [e]) (wipeS ρ5 vs) else I ds (i + 1) acc (wipeS ρ4 vs)) ∧ ∀ acc ρ2, I ds ds.length acc ρ2 → Q acc ρ2) :
    DN K (tLc wi g tt te vs) ρ Q := fun σ G H E T k =>
  h σ G H E _ fun J ds ρ1 G1 H1 ⟨hz, q0, qs, qd⟩ s1 E1 it => by
    intro L hL
    have hL0 : H L = none := s1.dom L hL
    have key0 : G1 L = none := none_back E1.sub hL
    refine ⟨fun i m H2 => m = ds.length - i ∧ i ≤ ds.length ∧ ∃ ρ2 G2 acc us, I ds i acc ρ2 ∧ acc.length ≤ i ∧ Step ρ G H ρ2 G2 H2 ∧ Same G1 G2 ∧ EnvOk K G2 H2 σ ρ2 ∧ G2 L = none ∧ H2 L = some (.lst us) ∧ ¬ Cell ρ2 L ∧ DpAll K G2 us acc,
      ⟨ds.length, by simp, Nat.zero_le _, ρ1, G1, [], [], q0, Nat.le_refl _, ?_, .refl _, ?_, key0, upd_same, ?_, .nil⟩, ?_⟩
    · refine ⟨s1.g, fun b o hb hc => ?_, fun b hb => ?_, s1.nw, s1.cl⟩
      · rw [upd_ne (ne_of_none hb hL0)]; exact s1.fr b o hb hc
      · by_cases z : b = L
        · subst z; exact hL0
        · rw [upd_ne z] at hb; exact s1.dom b hb
    · refine ⟨fun b o hb => ?_, E1.va, fun i a es hi => ?_, E1.dj, E1.len⟩
      · rw [upd_ne (ne_of_none hb key0)]; exact E1.sub b o hb
      · obtain ⟨a1, a2, us, a3, a4⟩ := E1.ce i a es hi
        exact ⟨a1, a2, us, by rw [upd_ne (ne_of_none a3 hL)]; exact a3, a4⟩
    · rintro ⟨i, es, hi⟩
      obtain ⟨_, _, us, a3, _⟩ := E1.ce i L es hi
      rw [hL] at a3; cases a3
    · rintro i m H2 ⟨rfl, hi, ρ2, G2, acc, us, a, al, b, c, d, gl, hl, nc, du⟩
      by_cases hlt : i < ds.length
      · obtain ⟨e1, e2⟩ := it.go i ds[i] G2 H2 (List.getElem?_eq_getElem hlt) c d.sub
        refine .inr ⟨e1, fun H' => ∃ ρ' G' acc' us', I ds (i + 1) acc' ρ' ∧ acc'.length ≤ i + 1 ∧ Step ρ G H ρ' G' H' ∧ Same G1 G' ∧ EnvOk K G' H' σ ρ' ∧ G' L = none ∧ H' L = some (.lst us') ∧ ¬ Cell ρ' L ∧ DpAll K G' us' acc',
          fun H' ⟨ρ', G', acc', us', x⟩ => ⟨ds.length - (i + 1), by omega, rfl, hlt, ρ', G', acc', us', x⟩, fun x H3 y => ?_⟩
        obtain ⟨G3, gr, dx⟩ := e2 x H3 y
        have E3 : EnvOk K G3 H3 (wipe σ vs) (wipeS ρ2 vs) := (d.grow gr).wiped (fun i hi => wipe_out hi) (wipe_length σ vs)
        have ww : wipe (wipe σ vs) vs = wipe σ vs := by
          have aux : ∀ (us ws : List Nat), (∀ x ∈ us, x ∈ ws) → ∀ τ : L2.St, wipe (wipe τ us) ws = wipe τ ws := by
            intro us
            induction us with
            | nil => intro ws _ τ; rfl
            | cons u us ih =>
              intro ws hs τ
              show wipe ((wipe τ us).set u none) ws = _
              rw [wipe_set (hs u List.mem_cons_self)]
              exact ih ws (fun x hx => hs x (List.mem_cons_of_mem _ hx)) τ
          exact aux vs vs (fun _ h => h) σ
        show g x (wipe σ vs) H3 fun σ2 H2 => wipe σ2 vs = wipe σ vs ∧ _
        have gw := hg x (wipe σ vs) H3
        rw [ww] at gw
        refine gw _ ?_
        refine qs i ds[i] acc ρ2 (List.getElem?_eq_getElem hlt) a (wipe σ vs) G3 H3 x E3 dx _ fun σ4 ρ4 G4 H4 q4 s4 E4 w4 => ?_
        have s3 : Step ρ2 G2 H2 (wipeS ρ2 vs) G3 H3 := ⟨gr.g, fun b o h _ => gr.h b o h, fun b h => none_back gr.h h, fun b o h => (gr.nw b o h).elim .inl (.inr ∘ .inl), fun b h => .inl (cell_wipe h)⟩
        have out : ∀ i, i ∉ vs → σ4[i]? = σ[i]? := fun i hi => by rw [← wipe_out (σ := σ4) hi, w4, wipe_out hi]
        have len4 : σ4.length = σ.length := by rw [← wipe_length σ4 vs, w4, wipe_length]
        -- the new list stays out of what is known
        have keep : ∀ {ρ5 G5 H5}, Step ρ2 G2 H2 ρ5 G5 H5 → G5 L = none ∧ H5 L = some (.lst us) ∧ ¬ Cell ρ5 L := fun {ρ5 G5 H5} s5 => by
          refine ⟨?_, s5.fr L _ hl nc, fun z => ?_⟩
          · cases q : G5 L with
            | none => rfl
            | some o =>
              rcases s5.nw L o q with z | z | z
              · rw [gl] at z; cases z
              · rw [hl] at z; cases z
              · exact absurd z nc
          · rcases s5.cl L z with z | z
            · exact nc z
            · rw [hl] at z; cases z
        have s24 := s3.trans s4
        refine q4 σ4 G4 H4 E4 _ fun bb ρ5 G5 H5 q5 s5 E5 => ?_
        have s25 := s24.trans s5
        cases bb with
        | false =>
          rw [if_neg (by decide)] at q5 ⊢
          obtain ⟨k1, k2, k3⟩ := keep s25
          have s25' : Step ρ2 G2 H2 (wipeS ρ5 vs) G5 H5 := ⟨s25.g, s25.fr, s25.dom, s25.nw, fun b h => s25.cl b (cell_wipe h)⟩
          exact ⟨wipeS ρ5 vs, G5, acc, us, q5, by omega, b.trans s25', c.trans s25.g, E5.wiped (fun i hi => (out i hi).symm) len4.symm, k1, k2, fun z => k3 (cell_wipe z), dpa_mono s25.g du⟩
        | true =>
          rw [if_pos rfl] at q5 ⊢
          refine q5 σ4 G5 H5 E5 _ fun y e ρ6 G6 H6 q6 s6 E6 dy => ?_
          have s26 := s25.trans s6
          obtain ⟨k1, k2, k3⟩ := keep s26
          have s26' : Step ρ2 G2 H2 (wipeS ρ6 vs) G6 H6 := ⟨s26.g, s26.fr, s26.dom, s26.nw, fun b h => s26.cl b (cell_wipe h)⟩
          have E7 : EnvOk K G6 H6 σ (wipeS ρ6 vs) := E6.wiped (fun i hi => (out i hi).symm) len4.symm
          refine ⟨us, k2, Nat.lt_of_le_of_lt (by rw [dpa_len du]; omega : us.length ≤ ds.length) hz, wipeS ρ6 vs, G6, acc ++ [e], us ++ [y], q6, by rw [List.length_append]; show acc.length + 1 ≤ _; omega, ?_, c.trans s26.g, ?_, k1, upd_same, fun z => k3 (cell_wipe z), dpa_app (dpa_mono s26.g du) (.cons dy .nil)⟩
          · have b2 := b.trans s26'
            refine ⟨b2.g, fun x o hx hc => ?_, fun x hx => ?_, b2.nw, b2.cl⟩
            · rw [upd_ne (ne_of_none hx hL0)]; exact b2.fr x o hx hc
            · by_cases z : x = L
              · subst z; exact hL0
              · rw [upd_ne z] at hx; exact b2.dom x hx
          · refine ⟨fun x o hx => ?_, E7.va, fun j a es hj => ?_, E7.dj, E7.len⟩
            · rw [upd_ne (ne_of_none hx k1)]; exact E7.sub x o hx
            · obtain ⟨a1, a2, ws, a3, a4⟩ := E7.ce j a es hj
              refine ⟨a1, a2, ws, ?_, a4⟩
              rw [upd_ne (fun z => k3 (cell_wipe ⟨j, es, by rw [← z]; exact hj⟩))]
              exact a3
      · have e : i = ds.length := by omega
        subst e
        exact .inl ⟨it.stop G2 H2 c d.sub, k L acc us ρ2 G2 H2 (qd acc ρ2 a) b d hL0 gl hl nc du⟩
end
end DL

/-! Defs and calls over data; own lists. -/
namespace DL
open PySem PySem.Spec PyProof.Rows L2

/-! ### pure defs -/
abbrev Call := List D → (D → Prop) → Prop
def spP (K : Fg) (c : Call) : Sp := fun vs H Q _ => ∃ (G : Hp) (ds : List D) (T : D → Prop), Same G H ∧ DpAll K G vs ds ∧ c ds T ∧ ∀ v d G' H', T d → Grow G H G' H' → Dp K G' v d → Q v H'
def initS (N : List Str) (ds : List D) : List Sl := ds.map .va ++ List.replicate (N.length - ds.length) .no
section
variable {K : Fg} {ρ : List Sl} {ta tb te : TE} {tt : TT} {P : Po}
theorem de_call {c : Call} {ta : TA} {Q : D → List Sl → Prop} (h : DA K ta ρ fun ds ρ1 => c ds fun d => Q d ρ1) : DE K (tCall (spP K c) [] E0 ta) ρ Q := fun σ G H E T k =>
  h σ G H E _ fun vs ds ρ1 G1 H1 q s E1 dv => by
    rw [List.append_nil]
    exact ⟨G1, ds, _, E1.sub, dv, q, fun v d G' H' t g dd => k v d ρ1 G' H' t (s.trans g.step) (E1.grow g) dd⟩
theorem dp_call {c : Call} {ta : TA} {ds : List D} {d : D} (h : DAP K ta ρ ds) (q : c ds fun e => e = d) : DP K (tCall (spP K c) [] E0 ta) ρ d := fun σ G H E T k =>
  h σ G H E _ fun vs G1 H1 g1 dv => by
    rw [List.append_nil]
    exact ⟨G1, ds, _, g1.s, dv, q, fun v d' G' H' t g dd => by subst t; exact k v G' H' (g1.trans g) dd⟩
theorem initS_va : ∀ {ds : List D} {n i : Nat} {x : Sl}, (ds.map Sl.va ++ List.replicate n Sl.no)[i]? = some x → (∃ d, ds[i]? = some d ∧ x = .va d) ∨ x = .no
  | [], n, i, x, h => .inr (by
    rw [List.map_nil, List.nil_append, List.getElem?_replicate] at h
    split at h
    · exact (Option.some.inj h).symm
    · cases h)
  | d :: ds, n, 0, x, h => .inl ⟨d, rfl, (Option.some.inj h).symm⟩
  | d :: ds, n, i + 1, x, h => initS_va (ds := ds) (n := n) (i := i) h
theorem start_get {vs : List V} {n i : Nat} {v : V} (h : vs[i]? = some v) : (vs.map some ++ List.replicate n (none : Option V))[i]? = some (some v) := by
  have hl := (List.getElem?_eq_some_iff.mp h).1
  rw [List.getElem?_append_left (by rw [List.length_map]; exact hl), List.getElem?_map, h]
  rfl
theorem env_start {N : List Str} {G H : Hp} {vs : List V} {ds : List D} (e : Same G H) (dv : DpAll K G vs ds) : EnvOk K G H (L2.start N vs) (initS N ds) where
  sub := e
  va := fun i d h => by
    rcases initS_va h with ⟨d', h1, h2⟩ | h2
    · cases h2
      obtain ⟨v, a, b⟩ := dpa_get dv h1
      exact ⟨v, start_get a, b⟩
    · cases h2
  ce := fun i a es h => by
    rcases initS_va h with ⟨d', h1, h2⟩ | h2 <;> cases h2
  dj := fun i j a es fs h _ => by
    rcases initS_va h with ⟨d', h1, h2⟩ | h2 <;> cases h2
  len := by
    have := dpa_len dv
    unfold L2.start initS
    rw [List.length_append, List.length_append, List.length_map, List.length_map, List.length_replicate, List.length_replicate, this]
theorem nocell_init {N : List Str} {ds : List D} {b : Addr} : ¬ Cell (initS N ds) b := by
  rintro ⟨i, es, h⟩
  rcases initS_va h with ⟨d', h1, h2⟩ | h2 <;> cases h2
theorem Step.grows {G H G' H' : Hp} {ρ' : List Sl} (s : Step ρ G H ρ' G' H') (h : ∀ b, ¬ Cell ρ b) (e : Same G' H') : Grow G H G' H' :=
  ⟨s.g, fun b o q => s.fr b o q (h b), e, fun b o q => by
    rcases s.nw b o q with z | z | z
    · exact .inl z
    · exact .inr z
    · exact absurd z (h b)⟩
variable {Pg : Program} {w : World} {mg : Str → Option Value} {base : Heap}
/-! ### defs that hand back a fresh list -/
def spN (K : Fg) (c : List D → (List D → Prop) → Prop) : Sp := fun vs H Q _ => ∃ (G : Hp) (ds : List D) (T : List D → Prop), Same G H ∧ DpAll K G vs ds ∧ c ds T ∧
  ∀ p es us G' H', T es → Grow G H G' H' → H p = none → G' p = none → H' p = some (.lst us) → DpAll K G' us es → Q (.ref p) H'
theorem dn_call {c : List D → (List D → Prop) → Prop} {ta : TA} {Q : List D → List Sl → Prop} (h : DA K ta ρ fun ds ρ1 => c ds fun d => Q d ρ1) : DN K (tCall (spN K c) [] E0 ta) ρ Q := fun σ G H E T k =>
  h σ G H E _ fun vs ds ρ1 G1 H1 q s E1 dv => by
    rw [List.append_nil]
    refine ⟨G1, ds, _, E1.sub, dv, q, fun p es us G' H' t g hp gp h1 dd => k p es us ρ1 G' H' t (s.trans g.step) (E1.grow g) (s.dom p hp) gp h1 ?_ dd⟩
    rintro ⟨i, fs, hi⟩
    obtain ⟨_, _, ws, a3, _⟩ := E1.ce i p fs hi
    rw [hp] at a3; cases a3
/-! ### defs whose first argument is an own list of the caller's -/
structure GrowX (p : Addr) (G H G' H' : Hp) : Prop where
  g : Same G G'
  s : Same G' H'
  fr : ∀ b o, b ≠ p → H b = some o → H' b = some o
  dom : ∀ b, H' b = none → H b = none
  nw : ∀ b o, G' b = some o → G b = some o ∨ H b = none
  gp : G' p = none
abbrev CallC := List D → List D → (D → List D → Prop) → Prop
def spC (K : Fg) (c : CallC) : Sp := fun vs H Q _ => ∃ (G : Hp) (p : Addr) (us vs' : List V) (cs ds : List D) (T : D → List D → Prop), vs = .ref p :: vs' ∧ Same G H ∧ G p = none ∧ H p = some (.lst us) ∧ DpAll K G us cs ∧ DpAll K G vs' ds ∧ c cs ds T ∧
  ∀ v d es ws G' H', T d es → GrowX p G H G' H' → H' p = some (.lst ws) → DpAll K G' ws es → Dp K G' v d → Q v H'
theorem get_set {α : Type} {l : List α} {i j : Nat} {x y z : α} (h : l[i]? = some x) (e : (l.set i y)[j]? = some z) : (i = j ∧ y = z) ∨ (i ≠ j ∧ l[j]? = some z) := by
  have hi := (List.getElem?_eq_some_iff.mp h).1
  by_cases q : i = j
  · subst q
    rw [List.getElem?_set_self hi] at e
    exact .inl ⟨rfl, Option.some.inj e⟩
  · rw [List.getElem?_set_ne q] at e
    exact .inr ⟨q, e⟩
/-- an own list is changed -/
theorem EnvOk.cell {G H G' H' : Hp} {σ : L2.St} {i : Nat} {p : Addr} {cs es : List D} {ws : List V} (E : EnvOk K G H σ ρ) (hi : ρ[i]? = some (.ce p cs)) (g : GrowX p G H G' H') (hp : H' p = some (.lst ws)) (dw : DpAll K G' ws es) :
    EnvOk K G' H' σ (ρ.set i (.ce p es)) ∧ Step ρ G H (ρ.set i (.ce p es)) G' H' := by
  have stay : ∀ b us, b ≠ p → G b = none → H b = some (.lst us) → G' b = none := fun b us hb gb hb2 => by
    cases q : G' b with
    | none => rfl
    | some o =>
      rcases g.nw b o q with z | z
      · rw [gb] at z; cases z
      · rw [hb2] at z; cases z
  refine ⟨⟨g.s, fun j d hj => ?_, fun j a ds hj => ?_, fun j k a ds fs hj hk => ?_, by rw [List.length_set]; exact E.len⟩, ⟨g.g, fun b o hb hc => g.fr b o (fun z => hc ⟨i, cs, by rw [z]; exact hi⟩) hb, g.dom, fun b o hb => (g.nw b o hb).elim .inl (.inr ∘ .inl), fun b hb => ?_⟩⟩
  · rcases get_set hi hj with ⟨_, z⟩ | ⟨_, z⟩
    · cases z
    · obtain ⟨v, a, b⟩ := E.va j d z
      exact ⟨v, a, dp_mono g.g b⟩
  · rcases get_set hi hj with ⟨z, z2⟩ | ⟨z1, z⟩
    · cases z2; subst z
      exact ⟨(E.ce _ _ _ hi).1, g.gp, ws, hp, dw⟩
    · obtain ⟨a1, a2, us, a3, a4⟩ := E.ce j a ds z
      have hne : a ≠ p := fun e => z1 (E.dj i j p cs ds hi (by rw [← e]; exact z))
      exact ⟨a1, stay a us hne a2 a3, us, g.fr a _ hne a3, dpa_mono g.g a4⟩
  · rcases get_set hi hj with ⟨z, z2⟩ | ⟨z1, z⟩
    · cases z2
      rcases get_set hi hk with ⟨y, y2⟩ | ⟨y1, y⟩
      · rw [← z, ← y]
      · exact z.symm.trans (E.dj i k p cs fs hi y)
    · rcases get_set hi hk with ⟨y, y2⟩ | ⟨y1, y⟩
      · cases y2
        exact (E.dj j i p ds cs z hi).trans y
      · exact E.dj j k a ds fs z y
  · obtain ⟨j, fs, hj⟩ := hb
    rcases get_set hi hj with ⟨z, z2⟩ | ⟨z1, z⟩
    · cases z2; exact .inl ⟨i, cs, hi⟩
    · exact .inl ⟨j, fs, z⟩
theorem de_callC {c : CallC} {i : Nat} {p : Addr} {cs : List D} {tr : TA} {Q : D → List Sl → Prop} (hi : ρ[i]? = some (.ce p cs)) (h : DA K tr ρ fun ds ρ1 => ∃ cs1, ρ1[i]? = some (.ce p cs1) ∧ c cs1 ds fun d es => Q d (ρ1.set i (.ce p es))) :
    DE K (tCall (spC K c) [] E0 (tCons (tVar i) tr)) ρ Q := fun σ G H E T k => by
  obtain ⟨a1, a2, us, a3, a4⟩ := E.ce i p cs hi
  refine ⟨.ref p, a1, h σ G H E _ fun vs ds ρ1 G1 H1 ⟨cs1, h1, q⟩ s E1 dv => ?_⟩
  show spC K c ((V.ref p :: vs) ++ []) H1 T E0
  rw [List.append_nil]
  obtain ⟨b1, b2, ws, b3, b4⟩ := E1.ce i p cs1 h1
  refine ⟨G1, p, ws, vs, cs1, ds, _, rfl, E1.sub, b2, b3, b4, dv, q, fun v d es us' G' H' t g hp dw dd => ?_⟩
  obtain ⟨e2, s2⟩ := E1.cell h1 g hp dw
  exact k v d _ G' H' t (s.trans s2) e2 dd
def initC (N : List Str) (p : Addr) (cs ds : List D) : List Sl := .ce p cs :: (ds.map .va ++ List.replicate (N.length - (ds.length + 1)) .no)
theorem env_startC {N : List Str} {G H : Hp} {p : Addr} {us vs' : List V} {cs ds : List D} (e : Same G H) (gp : G p = none) (hp : H p = some (.lst us)) (du : DpAll K G us cs) (dv : DpAll K G vs' ds) : EnvOk K G H (L2.start N (.ref p :: vs')) (initC N p cs ds) := by
  refine ⟨e, fun i d h => ?_, fun i a es h => ?_, fun i j a es fs h h2 => ?_, ?_⟩
  · cases i with
    | zero => cases h
    | succ i =>
      rcases initS_va (show (ds.map Sl.va ++ _)[i]? = some _ from h) with ⟨d', h1, h2⟩ | h2
      · cases h2
        obtain ⟨v, a, b⟩ := dpa_get dv h1
        exact ⟨v, start_get (vs := vs') a, b⟩
      · cases h2
  · cases i with
    | zero => cases h; exact ⟨rfl, gp, us, hp, du⟩
    | succ i => rcases initS_va (show (ds.map Sl.va ++ _)[i]? = some _ from h) with ⟨_, _, z⟩ | z <;> cases z
  · cases i with
    | zero => cases j with
      | zero => rfl
      | succ j => rcases initS_va (show (ds.map Sl.va ++ _)[j]? = some _ from h2) with ⟨_, _, z⟩ | z <;> cases z
    | succ i => rcases initS_va (show (ds.map Sl.va ++ _)[i]? = some _ from h) with ⟨_, _, z⟩ | z <;> cases z
  · have := dpa_len dv
    unfold L2.start initC
    simp only [List.length_append, List.length_map, List.length_replicate, List.length_cons, this]
    omega
/-! ### own lists within a def -/
/-- data without lists -/
def lf : D → Bool
  | .list _ => false
  | .tuple ds => lfs ds
  | .dict _ => false
  | _ => true
where lfs : List D → Bool
  | [] => true
  | d :: ds => lf d && lfs ds
def cut (G : Hp) (p : Addr) : Hp := fun b => if b = p then none else G b
mutual
theorem dp_cut {G : Hp} {p : Addr} {vs : List V} (h : G p = some (.lst vs)) : ∀ {d : D} {v : V}, lf d = true → Dp K G v d → Dp K (cut G p) v d
  | .none, _, _, h => by cases h; exact .non
  | .bool _, _, _, h => by cases h; exact .bl _
  | .int _, _, _, h => by cases h; exact .int _
  | .str _, _, _, h => by cases h; exact .str _
  | .list _, _, l, _ => by cases l
  | .dict _, _, l, _ => by cases l
  | .tuple ds, _, l, q => by
    cases q with
    | tup a b =>
      refine .tup ?_ (dpa_cut h (by unfold lf at l; exact l) b)
      have ne : ∀ {a : Addr} {o : HO}, G a = some o → o ≠ .lst vs → (cut G p) a = some o := fun {a o} e n => by
        unfold cut
        rw [if_neg (fun z => by subst z; rw [h] at e; exact n (Option.some.inj e).symm)]
        exact e
      rcases a with (a | ⟨o, a⟩) | a
      · exact .inl (.inl (ne a (fun z => nomatch z)))
      · exact .inl (.inr ⟨o, ne a (fun z => nomatch z)⟩)
      · exact .inr a
theorem dpa_cut {G : Hp} {p : Addr} {vs : List V} (h : G p = some (.lst vs)) : ∀ {ds : List D} {us : List V}, lf.lfs ds = true → DpAll K G us ds → DpAll K (cut G p) us ds
  | [], _, _, h => by cases h; exact .nil
  | d :: ds, _, l, q => by
    unfold lf.lfs at l
    rw [Bool.and_eq_true] at l
    cases q with
    | cons a b => exact .cons (dp_cut h l.1 a) (dpa_cut h l.2 b)
end
theorem EnvOk.froze {G H : Hp} {σ : L2.St} {i : Nat} {p : Addr} {cs : List D} {us : List V} (E : EnvOk K G H σ ρ) (hi : ρ[i]? = some (.ce p cs)) (hp : H p = some (.lst us)) (du : DpAll K G us cs) :
    EnvOk K (upd G p (.lst us)) H σ (ρ.set i (.va (.list cs))) ∧ Step ρ G H (ρ.set i (.va (.list cs))) (upd G p (.lst us)) H := by
  obtain ⟨a1, a2, us', a3, a4⟩ := E.ce i p cs hi
  have sm : Same G (upd G p (.lst us)) := fun b o h => by rw [upd_ne (ne_of_none h a2)]; exact h
  refine ⟨⟨fun b o h => ?_, fun j d hj => ?_, fun j a ds hj => ?_, fun j k a ds fs hj hk => ?_, by rw [List.length_set]; exact E.len⟩, ⟨sm, fun _ _ h _ => h, fun _ h => h, fun b o h => ?_, fun b h => .inl (cell_set h)⟩⟩
  · by_cases z : b = p
    · subst z; rw [upd_same] at h; rw [hp]; exact h
    · rw [upd_ne z] at h; exact E.sub b o h
  · rcases get_set hi hj with ⟨z, z2⟩ | ⟨_, z⟩
    · cases z2; subst z
      exact ⟨_, a1, .lst (.of upd_same) (dpa_mono sm du)⟩
    · obtain ⟨v, a, b⟩ := E.va j d z
      exact ⟨v, a, dp_mono sm b⟩
  · rcases get_set hi hj with ⟨z, z2⟩ | ⟨z1, z⟩
    · cases z2
    · obtain ⟨b1, b2, ws, b3, b4⟩ := E.ce j a ds z
      have hne : a ≠ p := fun e => z1 (E.dj i j p cs ds hi (by rw [← e]; exact z))
      exact ⟨b1, by rw [upd_ne hne]; exact b2, ws, b3, dpa_mono sm b4⟩
  · rcases get_set hi hj with ⟨z, z2⟩ | ⟨z1, z⟩
    · cases z2
    · rcases get_set hi hk with ⟨y, y2⟩ | ⟨y1, y⟩
      · cases y2
      · exact E.dj j k a ds fs z y
  · by_cases z : b = p
    · subst z; exact .inr (.inr ⟨i, cs, hi⟩)
    · rw [upd_ne z] at h; exact .inl h
/-- an own list is only read from here on -/
theorem ds_freeze {t : TS} {i : Nat} {p : Addr} {cs : List D} (hi : ρ[i]? = some (.ce p cs)) (h : DS K t (ρ.set i (.va (.list cs))) P) : DS K t ρ P := fun σ G H Z E z => by
  obtain ⟨a1, a2, us, a3, a4⟩ := E.ce i p cs hi
  obtain ⟨e, s⟩ := E.froze hi a3 a4
  exact h σ _ H Z e (z.step s)
/-- an own list is read within an expression -/
theorem dp_peek {d : D} {i : Nat} {p : Addr} {cs : List D} (hi : ρ[i]? = some (.ce p cs)) (h : DP K te (ρ.set i (.va (.list cs))) d) (hd : lf d = true) : DP K te ρ d := fun σ G H E T k => by
  obtain ⟨a1, a2, us, a3, a4⟩ := E.ce i p cs hi
  obtain ⟨e, s⟩ := E.froze hi a3 a4
  refine h σ _ H e T fun v G2 H2 g2 dd => ?_
  have hG2 : G2 p = some (.lst us) := g2.g p _ upd_same
  refine k v (cut G2 p) H2 ⟨fun b o hb => ?_, g2.h, fun b o hb => ?_, fun b o hb => ?_⟩ (dp_cut hG2 hd dd)
  · have ne := ne_of_none hb a2
    unfold cut
    rw [if_neg ne]
    exact g2.g b o (by rw [upd_ne ne]; exact hb)
  · unfold cut at hb
    split at hb
    · cases hb
    · exact g2.s b o hb
  · unfold cut at hb
    split at hb
    · cases hb
    · rename_i hne
      rcases g2.nw b o hb with z | z
      · rw [upd_ne hne] at z; exact .inl z
      · exact .inr z
end
end DL

/-! Operators and built-ins over data. -/
namespace DL
open PySem PySem.Spec PyProof.Rows L2
section
variable {K : Fg} {ρ : List Sl} {ta tb te tc : TE} {tt : TT} {P : Po} {i j : Int} {d e f : D}
theorem r2_I0 {g : Int → Int → V} {Q : D → Prop} (h : ∀ G, Dp K G (g i j) f) (q : Q f) : R2D K (rI0 g) (.int i) (.int j) Q := fun G H x y s a b T k => by
  cases a; cases b
  exact ⟨i, j, rfl, rfl, k _ f G H q (.refl s) (h G)⟩
theorem r2_I {C : Int → Int → Prop} {g : Int → Int → V} {Q : D → Prop} (hc : C i j) (h : ∀ G, Dp K G (g i j) f) (q : Q f) : R2D K (rI C g) (.int i) (.int j) Q := fun G H x y s a b T k => by
  cases a; cases b
  exact ⟨i, j, rfl, rfl, hc, k _ f G H q (.refl s) (h G)⟩
abbrev rAddI : R2 := rI0 fun i j => .int (i + j)
abbrev rSubI : R2 := rI0 fun i j => .int (i - j)
abbrev rMulI : R2 := rI CMulW fun i j => .int (i * j)
def CDivX (_ j : Int) : Prop := j ≠ 0 ∧ j.natAbs.log2 < 9000
abbrev rDivI : R2 := rI CDivX fun i j => .int (i.fdiv j)
abbrev rModI : R2 := rI (fun _ j => j ≠ 0) fun i j => .int (i.fmod j)
abbrev rLtI : R2 := rI0 fun i j => .bl (decide (i < j))
abbrev rLeI : R2 := rI0 fun i j => .bl (decide (i ≤ j))
abbrev rGtI : R2 := rI0 fun i j => .bl (decide (j < i))
abbrev rGeI : R2 := rI0 fun i j => .bl (decide (j ≤ i))
def CPowX (i j : Int) : Prop := 0 ≤ j ∧ (Builtin.Int.intBits i : Int) * j ≤ 2 ^ 27
abbrev rPowI : R2 := rI CPowX fun i j => .int (i ^ j.toNat)
theorem op_fdivX {X : Cx} : OpR X (binaryOp .FloorDiv) rDivI := opI fun i j _ _ _ _ _ hc q => floordiv_int hc.1 q (.inl (PyProof.noPylong_of_log2 hc.2))
theorem op_powX {X : Cx} : OpR X (binaryOp .Pow) rPowI := opI fun _ _ _ _ _ _ _ hc q => pow_int hc.1 hc.2 q
theorem dp_add (ha : DP K ta ρ (.int i)) (hb : DP K tb ρ (.int j)) : DP K (tOp rAddI ta tb) ρ (.int (i + j)) := dp_op ha hb (r2_I0 (fun _ => .int _) rfl)
theorem dp_sub (ha : DP K ta ρ (.int i)) (hb : DP K tb ρ (.int j)) : DP K (tOp rSubI ta tb) ρ (.int (i - j)) := dp_op ha hb (r2_I0 (fun _ => .int _) rfl)
theorem dp_mul (ha : DP K ta ρ (.int i)) (hb : DP K tb ρ (.int j)) (hc : CMulW i j) : DP K (tOp rMulI ta tb) ρ (.int (i * j)) := dp_op ha hb (r2_I hc (fun _ => .int _) rfl)
theorem dp_div (ha : DP K ta ρ (.int i)) (hb : DP K tb ρ (.int j)) (hc : CDivX i j) : DP K (tOp rDivI ta tb) ρ (.int (i.fdiv j)) := dp_op ha hb (r2_I hc (fun _ => .int _) rfl)
theorem dp_mod (ha : DP K ta ρ (.int i)) (hb : DP K tb ρ (.int j)) (hc : j ≠ 0) : DP K (tOp rModI ta tb) ρ (.int (i.fmod j)) := dp_op ha hb (r2_I (C := fun _ j => j ≠ 0) hc (fun _ => .int _) rfl)
theorem dp_pow (ha : DP K ta ρ (.int i)) (hb : DP K tb ρ (.int j)) (hc : CPowX i j) : DP K (tOp rPowI ta tb) ρ (.int (i ^ j.toNat)) := dp_op ha hb (r2_I hc (fun _ => .int _) rfl)
theorem dp_lt (ha : DP K ta ρ (.int i)) (hb : DP K tb ρ (.int j)) : DP K (tOp rLtI ta tb) ρ (.bool (decide (i < j))) := dp_op ha hb (r2_I0 (fun _ => .bl _) rfl)
theorem dp_le (ha : DP K ta ρ (.int i)) (hb : DP K tb ρ (.int j)) : DP K (tOp rLeI ta tb) ρ (.bool (decide (i ≤ j))) := dp_op ha hb (r2_I0 (fun _ => .bl _) rfl)
theorem dp_gt (ha : DP K ta ρ (.int i)) (hb : DP K tb ρ (.int j)) : DP K (tOp rGtI ta tb) ρ (.bool (decide (j < i))) := dp_op ha hb (r2_I0 (fun _ => .bl _) rfl)
theorem dp_ge (ha : DP K ta ρ (.int i)) (hb : DP K tb ρ (.int j)) : DP K (tOp rGeI ta tb) ρ (.bool (decide (j ≤ i))) := dp_op ha hb (r2_I0 (fun _ => .bl _) rfl)
/-- by values alone: for uses where an operand draws -/
theorem r2_add {Q : D → Prop} (q : Q (.int (i + j))) : R2D K rAddI (.int i) (.int j) Q := r2_I0 (fun _ => .int _) q
theorem r2_sub {Q : D → Prop} (q : Q (.int (i - j))) : R2D K rSubI (.int i) (.int j) Q := r2_I0 (fun _ => .int _) q
theorem r2_mul {Q : D → Prop} (hc : CMulW i j) (q : Q (.int (i * j))) : R2D K rMulI (.int i) (.int j) Q := r2_I hc (fun _ => .int _) q
theorem r2_eqI {Q : D → Prop} (q : Q (.bool (decide (i = j)))) : R2D K rEq (.int i) (.int j) Q := fun G H x y s a b T k => by
  cases a; cases b
  refine ⟨rfl, ?_⟩
  have : decide (V.int i = V.int j) = decide (i = j) := decide_eq_decide.mpr ⟨V.int.inj, fun h => by rw [h]⟩
  rw [this]
  exact k _ _ G H q (.refl s) (.bl _)
theorem r2_neI {Q : D → Prop} (q : Q (.bool (!decide (i = j)))) : R2D K rNe (.int i) (.int j) Q := fun G H x y s a b T k => by
  cases a; cases b
  refine ⟨rfl, ?_⟩
  have : decide (V.int i = V.int j) = decide (i = j) := decide_eq_decide.mpr ⟨V.int.inj, fun h => by rw [h]⟩
  rw [this]
  exact k _ _ G H q (.refl s) (.bl _)
theorem dp_eqI (ha : DP K ta ρ (.int i)) (hb : DP K tb ρ (.int j)) : DP K (tOp rEq ta tb) ρ (.bool (decide (i = j))) := dp_op ha hb (r2_eqI rfl)
theorem dp_neI (ha : DP K ta ρ (.int i)) (hb : DP K tb ρ (.int j)) : DP K (tOp rNe ta tb) ρ (.bool (!decide (i = j))) := dp_op ha hb (r2_neI rfl)
theorem r2_eqD {Q : D → Prop} (h1 : SeqAt.shaped d = true) (h2 : SeqAt.shaped e = true) (q : Q (.bool (PyData.eqv d e))) : R2D K (rEqD K) d e Q := fun G H x y s a b T k =>
  ⟨d, e, dp_mono s a, dp_mono s b, h1, h2, k _ _ G H q (.refl s) (.bl _)⟩
theorem r2_neD {Q : D → Prop} (h1 : SeqAt.shaped d = true) (h2 : SeqAt.shaped e = true) (q : Q (.bool (!PyData.eqv d e))) : R2D K (rNeD K) d e Q := fun G H x y s a b T k =>
  ⟨d, e, dp_mono s a, dp_mono s b, h1, h2, k _ _ G H q (.refl s) (.bl _)⟩
theorem dp_eqD (ha : DP K ta ρ d) (hb : DP K tb ρ e) (h1 : SeqAt.shaped d = true) (h2 : SeqAt.shaped e = true) : DP K (tOp (rEqD K) ta tb) ρ (.bool (PyData.eqv d e)) := dp_op ha hb (r2_eqD h1 h2 rfl)
theorem dp_neD (ha : DP K ta ρ d) (hb : DP K tb ρ e) (h1 : SeqAt.shaped d = true) (h2 : SeqAt.shaped e = true) : DP K (tOp (rNeD K) ta tb) ρ (.bool (!PyData.eqv d e)) := dp_op ha hb (r2_neD h1 h2 rfl)
def isN : D → Bool
  | .none => true
  | _ => false
abbrev rIsN : R2 := fun x y H Q => y = .non ∧ Q (.bl (decide (x = .non))) H
abbrev rNotN : R2 := fun x y H Q => y = .non ∧ Q (.bl (!decide (x = .non))) H
theorem dec_non {G : Hp} {v : V} (a : Dp K G v d) : decide (v = .non) = isN d := by cases a <;> rfl
theorem dp_isN (ha : DP K ta ρ d) : DP K (tOp rIsN ta (tC .non)) ρ (.bool (isN d)) := dp_op ha dp_non fun G H x y s a b T k => by
  cases b
  refine ⟨rfl, ?_⟩
  rw [dec_non a]
  exact k _ _ G H rfl (.refl s) (.bl _)
theorem dp_notN (ha : DP K ta ρ d) : DP K (tOp rNotN ta (tC .non)) ρ (.bool (!isN d)) := dp_op ha dp_non fun G H x y s a b T k => by
  cases b
  refine ⟨rfl, ?_⟩
  rw [dec_non a]
  exact k _ _ G H rfl (.refl s) (.bl _)
theorem dp_notB {a b : Bool} (ha : DP K ta ρ (.bool a)) (hb : DP K tb ρ (.bool b)) : DP K (tOp rNotB ta tb) ρ (.bool (!decide (a = b))) := dp_op ha hb fun G H x y s p q T k => by
  cases p; cases q
  exact ⟨a, b, rfl, rfl, k _ _ G H rfl (.refl s) (.bl _)⟩
theorem dp_isB {a b : Bool} (ha : DP K ta ρ (.bool a)) (hb : DP K tb ρ (.bool b)) : DP K (tOp rIsB ta tb) ρ (.bool (decide (a = b))) := dp_op ha hb fun G H x y s p q T k => by
  cases p; cases q
  exact ⟨a, b, rfl, rfl, k _ _ G H rfl (.refl s) (.bl _)⟩
/-! ### True - False -/
theorem run_sub_bb (a b : Bool) : Gives (Builtin.«int.__sub__» ⟨[.bool a, .bool b], []⟩) (.int ((if a = true then (1 : Int) else 0) - (if b = true then (1 : Int) else 0))) :=
  .of_wp fun M A E s Q h => by obtain ⟨hp, g, d, tk, os⟩ := s; wp_walk; exact ⟨_, rfl, h⟩
def bi (b : Bool) : Int := if b = true then 1 else 0
def rSubB : R2 := fun x y H Q => ∃ a b : Bool, x = .bl a ∧ y = .bl b ∧ Q (.int (bi a - bi b)) H
theorem op_subB {X : Cx} : OpR X (binaryOp .Sub) rSubB := by
  intro pins s σ H x y v u Q I rx ry h
  obtain ⟨a, b, rfl, rfl, q⟩ := h
  cases rx; cases ry
  refine wpAny_binaryOp_same (op := .Sub) (T := "bool") (PySem.typeIs_bool s a) (PySem.typeIs_bool s b) F.fills_bool_sub F.slot_bool_sub (call_gives F.slot_bool_sub (PySem.typeIs_bool s a) F.entry_int_sub (F.args_int_sub_2 _ _) (run_sub_bb a b) (Made.post_and trivial ?_))
  exact ⟨.int (bi a - bi b), H, I.tok _, ⟨_, rfl⟩, q⟩
theorem dp_subB {a b : Bool} (ha : DP K ta ρ (.bool a)) (hb : DP K tb ρ (.bool b)) : DP K (tOp rSubB ta tb) ρ (.int (bi a - bi b)) := dp_op ha hb fun G H x y s p q T k => by
  cases p; cases q
  exact ⟨a, b, rfl, rfl, k _ _ G H rfl (.refl s) (.int _)⟩
/-! ### items -/
theorem atI_map {G : Hp} : ∀ {vs : List V} {ds : List D} {k : Int}, DpAll K G vs ds → atI ds k = some d → ∃ v, atI vs k = some v ∧ Dp K G v d := fun {vs ds k} h e => by
  unfold atI at e ⊢
  rw [dpa_len h]
  cases q : ixN ds.length k with
  | none => rw [q] at e; cases e
  | some j =>
    rw [q] at e
    exact dpa_get h e
theorem r2_ixT {ds : List D} {k : Int} {Q : D → Prop} (h : atI ds k = some d) (q : Q d) : R2D K (rIxT K) (.tuple ds) (.int k) Q := fun G H x y s a b T w => by
  cases b
  cases a with
  | tup h1 h2 =>
    obtain ⟨v, e1, e2⟩ := atI_map h2 h
    exact ⟨_, _, k, v, rfl, rfl, sqt_mono s h1, e1, w v d G H q (.refl s) e2⟩
theorem r2_ixL {ds : List D} {k : Int} {Q : D → Prop} (h : atI ds k = some d) (q : Q d) : R2D K (rIxL K) (.list ds) (.int k) Q := fun G H x y s a b T w => by
  cases b
  cases a with
  | lst h1 h2 =>
    obtain ⟨v, e1, e2⟩ := atI_map h2 h
    exact ⟨_, _, k, v, rfl, rfl, s.seq h1, e1, w v d G H q (.refl s) e2⟩
theorem dp_ixT {ds : List D} {k : Int} (ha : DP K ta ρ (.tuple ds)) (hb : DP K tb ρ (.int k)) (h : atI ds k = some d := by rfl) : DP K (tOp (rIxT K) ta tb) ρ d := dp_op ha hb (r2_ixT h rfl)
theorem dp_ixL {ds : List D} {k : Int} (ha : DP K ta ρ (.list ds)) (hb : DP K tb ρ (.int k)) (h : atI ds k = some d) : DP K (tOp (rIxL K) ta tb) ρ d := dp_op ha hb (r2_ixL h rfl)
/-! ### calls -/
abbrev rLen2 (K : Fg) : List V → Hp → VK → Prop := fun xs H Q => ∃ p ys, xs = [.ref p] ∧ (SqL K H p ys ∨ SqT K H p ys) ∧ Q (.int ys.length) H
theorem dp_lenT {ds : List D} (ha : DP K ta ρ (.tuple ds)) : DP K (tCB (rLen2 K) (tCons ta tNil)) ρ (.int (ds.length : Int)) := dp_cb (dap_cons ha dap_nil) fun G H vs s a T k => by
  cases a with
  | cons a b =>
    cases b
    cases a with
    | tup h1 h2 => exact ⟨_, _, rfl, .inr (sqt_mono s h1), by rw [dpa_len h2]; exact k _ _ G H rfl (.refl s) (.int _)⟩
theorem dp_lenL {ds : List D} (ha : DP K ta ρ (.list ds)) : DP K (tCB (rLen2 K) (tCons ta tNil)) ρ (.int (ds.length : Int)) := dp_cb (dap_cons ha dap_nil) fun G H vs s a T k => by
  cases a with
  | cons a b =>
    cases b
    cases a with
    | lst h1 h2 => exact ⟨_, _, rfl, .inl (s.seq h1), by rw [dpa_len h2]; exact k _ _ G H rfl (.refl s) (.int _)⟩
theorem dp_all {bs : List Bool} (ha : DP K ta ρ (.list (bs.map .bool))) : DP K (tCB (rAll K) (tCons ta tNil)) ρ (.bool (bs.all id)) := dp_cb (dap_cons ha dap_nil) fun G H vs s a T k => by
  cases a with
  | cons a b =>
    cases b
    cases a with
    | lst h1 h2 =>
      have e := dpa_bls h2
      subst e
      exact ⟨_, bs, rfl, s.seq h1, k _ _ G H rfl (.refl s) (.bl _)⟩
theorem rc_all {bs : List Bool} {Q : D → Prop} (q : Q (.bool (bs.all id))) : RCD K (rAll K) [.list (bs.map .bool)] Q := fun G H vs s a T k => by
  cases a with
  | cons a b =>
    cases b
    cases a with
    | lst h1 h2 =>
      have e := dpa_bls h2
      subst e
      exact ⟨_, bs, rfl, s.seq h1, k _ _ G H q (.refl s) (.bl _)⟩
theorem rc_gcd {Q : D → Prop} (q : Q (.int ((Nat.gcd i.natAbs j.natAbs : Nat) : Int))) : RCD K rGcd [.int i, .int j] Q := fun G H vs s a T k => by
  cases a with
  | cons a b =>
    cases a
    cases b with
    | cons b c => cases b; cases c; exact ⟨i, j, rfl, k _ _ G H q (.refl s) (.int _)⟩
theorem dp_gcd (ha : DP K ta ρ (.int i)) (hb : DP K tb ρ (.int j)) : DP K (tCB rGcd (tCons ta (tCons tb tNil))) ρ (.int ((Nat.gcd i.natAbs j.natAbs : Nat) : Int)) := dp_cb (dap_cons ha (dap_cons hb dap_nil)) (rc_gcd rfl)
/-- math.isqrt -/
def rIsqrt : List V → Hp → VK → Prop := fun vs H Q => ∃ a : Int, vs = [.int a] ∧ 0 ≤ a ∧ a.toNat.log2 < 13000 ∧ Q (.int ((Float64.isqrt a.toNat : Nat) : Int)) H
theorem cr_isqrt {X : Cx} : CallR X (.builtin "math.isqrt") rIsqrt := by
  intro pins s σ H vs us Q I r h
  obtain ⟨a, rfl, h0, h1, q⟩ := h
  cases r with
  | cons r r' =>
    cases r'
    obtain ⟨t, rfl⟩ := r
    refine PySem.call_function_meets PySem.W.MGF.kind_isqrt PySem.W.MGF.plain_isqrt PySem.W.MGF.entry_isqrt (PySem.W.MGF.args_isqrt _) (PySem.W.mg_run_isqrt a t (by omega) (by omega) ?_).meets ?_
    · intro z
      have : a.toNat.log2 / 30 ≤ 433 := by omega
      omega
    · exact ⟨.int _, H, I.tok _, ⟨_, rfl⟩, q⟩
theorem dp_isqrt (ha : DP K ta ρ (.int i)) (h0 : 0 ≤ i) (h1 : i.toNat.log2 < 13000) : DP K (tCB rIsqrt (tCons ta tNil)) ρ (.int ((Float64.isqrt i.toNat : Nat) : Int)) := dp_cb (dap_cons ha dap_nil) fun G H vs s a T k => by
  cases a with
  | cons a b => cases a; cases b; exact ⟨i, rfl, h0, h1, k _ _ G H rfl (.refl s) (.int _)⟩
abbrev rAbs : List V → Hp → VK → Prop := fun xs H Q => ∃ i, xs = [.int i] ∧ Q (.int (if i < 0 then -i else i)) H
theorem dp_abs (ha : DP K ta ρ (.int i)) : DP K (tCB rAbs (tCons ta tNil)) ρ (.int (i.natAbs : Int)) := dp_cb (dap_cons ha dap_nil) fun G H vs s a T k => by
  cases a with
  | cons a b =>
    cases a; cases b
    refine ⟨i, rfl, ?_⟩
    have : (if i < 0 then -i else i) = (i.natAbs : Int) := by split <;> omega
    rw [this]
    exact k _ _ G H rfl (.refl s) (.int _)
abbrev rInt1 : List V → Hp → VK → Prop := fun xs H Q => (∃ i, xs = [.int i] ∧ Q (.int i) H) ∨ ∃ k, xs = [.bl k] ∧ Q (.int (if k then 1 else 0)) H
theorem rc_int {Q : D → Prop} (q : Q (.int i)) : RCD K rInt1 [.int i] Q := fun G H vs s a T k => by
  cases a with
  | cons a b => cases a; cases b; exact .inl ⟨i, rfl, k _ _ G H q (.refl s) (.int _)⟩
theorem rc_intB {b : Bool} {Q : D → Prop} (q : Q (.int (if b then 1 else 0))) : RCD K rInt1 [.bool b] Q := fun G H vs s a T k => by
  cases a with
  | cons a c => cases a; cases c; exact .inr ⟨b, rfl, k _ _ G H q (.refl s) (.int _)⟩
theorem dp_intI (ha : DP K ta ρ (.int i)) : DP K (tCB rInt1 (tCons ta tNil)) ρ (.int i) := dp_cb (dap_cons ha dap_nil) (rc_int rfl)
theorem dp_intB {b : Bool} (ha : DP K ta ρ (.bool b)) : DP K (tCB rInt1 (tCons ta tNil)) ρ (.int (if b then 1 else 0)) := dp_cb (dap_cons ha dap_nil) (rc_intB rfl)
theorem de_intI {Q : D → List Sl → Prop} (h : DE K ta ρ fun d ρ1 => ∃ i, d = .int i ∧ Q (.int i) ρ1) : DE K (tCB rInt1 (tCons ta tNil)) ρ Q := de_cb (da_cons (h.mono fun d ρ1 ⟨i, e, q⟩ => da_nil (by subst e; exact rc_int q)))
theorem dp_neg (ha : DP K ta ρ (.int i)) : DP K (tUn (rU fun i => .int (-i)) ta) ρ (.int (-i)) := dp_un ha fun G H x s a T k => by
  cases a
  exact ⟨i, rfl, k _ _ G H rfl (.refl s) (.int _)⟩
/-! ### isinstance of a built-in type -/
def tyD : D → String
  | .none => "NoneType"
  | .bool _ => "bool"
  | .int _ => "int"
  | .str _ => "str"
  | .list _ => "list"
  | .tuple _ => "tuple"
  | .dict _ => "dict"
theorem tyx_of {H : Hp} {v : V} (h : Dp K H v d) : TyX K H v (.type (tyD d)) := by
  cases h with
  | non => exact .base .non
  | bl b => exact .base (.bl b)
  | int i => exact .base (.int i)
  | str x => exact .base (.str x)
  | lst a b =>
    rcases a with (a | ⟨o, a⟩) | ⟨o, its, n, a, c, _⟩
    · exact .base (.lst a)
    · exact .base (.frz a)
    · exact .kList a c
  | tup a b =>
    rcases a with (a | ⟨o, a⟩) | ⟨o, its, n, a, c, _⟩
    · exact .base (.tup a)
    · exact .fTuple a
    · exact .kTuple a c
theorem dp_isi {n : String} {b : Bool} (ha : DP K ta ρ d) (h : kitB (tyD d) n = some b) : DP K (tCB (rIsi K) (tCons ta (tCons (tC (.ty n)) tNil))) ρ (.bool b) := fun σ G H E T k =>
  ha σ G H E _ fun v G1 H1 g dv => ⟨v, .ty n, .type (tyD d), .type n, b, rfl, .ty n, tyx_of (dp_mono g.s dv), kit_ty h, k _ G1 H1 g (.bl b)⟩
end
/-! ### plain comprehensions -/
section
variable {K : Fg} {ρ : List Sl} {tl te : TE}
theorem wipe_idem {σ : L2.St} (vs : List Nat) : wipe (wipe σ vs) vs = wipe σ vs := by
  have aux : ∀ (us ws : List Nat), (∀ x ∈ us, x ∈ ws) → ∀ τ : L2.St, wipe (wipe τ us) ws = wipe τ ws := by
    intro us
    induction us with
    | nil => intro ws _ τ; rfl
    | cons u us ih =>
      intro ws hs τ
      show wipe ((wipe τ us).set u none) ws = _
      rw [wipe_set (hs u List.mem_cons_self)]
      exact ih ws (fun x hx => hs x (List.mem_cons_of_mem _ hx)) τ
  exact aux vs vs (fun _ h => h) σ
/-- [e for x in ..]: the items' values -/
def DIP (K : Fg) (wi : TI) (ρ : List Sl) (ds : List D) : Prop :=
  ∀ (σ : L2.St) (G H : Hp), EnvOk K G H σ ρ → ∀ R : It → Hp → Prop, (∀ J G' H', Grow G H G' H' → ItOk K G' J ds → R J H') → wi σ H R
theorem dp_lc {wi : TI} {ds : List D} {j : Nat} {vs : List Nat} (F : D → D) (hj : j ∈ vs) (h : DIP K wi ρ ds) (hz : ds.length < sizeLine) (he : ∀ d ∈ ds, DP K te ((wipeS ρ vs).set j (.va d)) (F d)) : DP K (tLc wi (gName j) tYes te vs) ρ (.list (ds.map F)) := fun σ G H E T k =>
  h σ G H E _ fun J G1 H1 g1 it => by
    intro L hL
    have E1 := E.grow g1
    have gL : G1 L = none := none_back g1.s hL
    refine ⟨fun i m H2 => m = ds.length - i ∧ i ≤ ds.length ∧ ∃ G2 us, Grow G1 H1 G2 (cut H2 L) ∧ G2 L = none ∧ H2 L = some (.lst us) ∧ DpAll K G2 us ((ds.take i).map F), ⟨ds.length, by simp, Nat.zero_le _, G1, [], ?_, gL, upd_same, .nil⟩, ?_⟩
    · have e : cut (upd H1 L (.lst [])) L = H1 := by
        funext b
        unfold cut
        by_cases z : b = L
        · subst z; rw [if_pos rfl, hL]
        · rw [if_neg z, upd_ne z]
      rw [e]
      exact .refl g1.s
    · rintro i m H2 ⟨rfl, hi, G2, us, gr, l1, l2, du⟩
      have cutSame : Same (cut H2 L) H2 := fun b o hb => by
        unfold cut at hb
        split at hb
        · cases hb
        · exact hb
      by_cases hlt : i < ds.length
      · have sub2 : Same G2 H2 := gr.s.trans cutSame
        obtain ⟨e1, e2⟩ := it.go i ds[i] G2 H2 (List.getElem?_eq_getElem hlt) gr.g sub2
        refine .inr ⟨e1, fun H' => ∃ G' us', Grow G1 H1 G' (cut H' L) ∧ G' L = none ∧ H' L = some (.lst us') ∧ DpAll K G' us' ((ds.take (i + 1)).map F), fun H' x => ⟨ds.length - (i + 1), by omega, rfl, hlt, x⟩, fun x H3 y => ?_⟩
        obtain ⟨G3, g3, dx⟩ := e2 x H3 y
        refine ⟨by rw [wipe_set hj, wipe_idem], ?_⟩
        unfold tYes
        dsimp only
        rw [if_pos rfl]
        have E2 : EnvOk K G2 H2 σ ρ := by
          refine ⟨sub2, fun i d q => ?_, fun i a es q => ?_, E1.dj, E1.len⟩
          · obtain ⟨v, a, b⟩ := E1.va i d q
            exact ⟨v, a, dp_mono gr.g b⟩
          · obtain ⟨a1, a2, ws, a3, a4⟩ := E1.ce i a es q
            refine ⟨a1, ?_, ws, cutSame _ _ (gr.h _ _ a3), dpa_mono gr.g a4⟩
            cases qq : G2 a with
            | none => rfl
            | some o =>
              rcases gr.nw a o qq with z | z
              · rw [a2] at z; cases z
              · rw [a3] at z; cases z
        have E3 := ((E2.grow g3).wiped (σ2 := wipe σ vs) (fun i hi => wipe_out hi) (wipe_length σ vs)).set j dx
        refine he ds[i] (List.getElem_mem hlt) _ G3 H3 E3 _ fun v G4 H4 g4 dv => ?_
        have g34 := g3.trans g4
        have l4 : H4 L = some (.lst us) := g34.h _ _ l2
        have gl4 : G4 L = none := by
          cases qq : G4 L with
          | none => rfl
          | some o =>
            rcases g34.nw L o qq with z | z
            · rw [l1] at z; cases z
            · rw [l2] at z; cases z
        have dl : us.length < sizeLine := by
          rw [dpa_len du, List.length_map, List.length_take]
          omega
        refine ⟨us, l4, dl, G4, us ++ [v], ?_, gl4, upd_same, ?_⟩
        · refine ⟨gr.g.trans g34.g, fun b o hb => ?_, fun b o hb => ?_, fun b o hb => ?_⟩
          · have ne := ne_of_none hb hL
            unfold cut
            rw [if_neg ne, upd_ne ne]
            exact g34.h _ _ (cutSame _ _ (gr.h _ _ hb))
          · have ne := ne_of_none hb gl4
            unfold cut
            rw [if_neg ne, upd_ne ne]
            exact g34.s _ _ hb
          · rcases g34.nw b o hb with z | z
            · exact gr.nw b o z
            · right
              have : (cut H2 L) b = none := by
                unfold cut
                split
                · rfl
                · exact z
              exact none_back gr.h this
        · rw [List.take_add_one, List.getElem?_eq_getElem hlt]
          show DpAll K G4 (us ++ [v]) ((ds.take i ++ [ds[i]]).map F)
          rw [List.map_append]
          exact dpa_app (dpa_mono g34.g du) (.cons dv .nil)
      · have e : i = ds.length := by omega
        subst e
        refine .inl ⟨it.stop G2 H2 gr.g (gr.s.trans cutSame), ?_⟩
        rw [List.take_length] at du
        have sm : Same G2 (upd G2 L (.lst us)) := fun b o hb => by rw [upd_ne (ne_of_none hb l1)]; exact hb
        refine k (.ref L) (upd G2 L (.lst us)) H2 (g1.trans ⟨gr.g.trans sm, fun b o hb => ?_, fun b o hb => ?_, fun b o hb => ?_⟩) (.lst (.of upd_same) (dpa_mono sm du))
        · exact cutSame _ _ (gr.h _ _ hb)
        · by_cases z : b = L
          · subst z; rw [upd_same] at hb; rw [l2]; exact hb
          · rw [upd_ne z] at hb; exact cutSame _ _ (gr.s _ _ hb)
        · by_cases z : b = L
          · subst z; exact .inr hL
          · rw [upd_ne z] at hb; exact gr.nw b o hb
theorem dip_tup {ds : List D} (h : DP K tl ρ (.tuple ds)) : DIP K (iTup K tl) ρ ds := fun σ G H E R k =>
  h σ G H E _ fun v G1 H1 g1 dv => by
    cases dv with
    | @tup a vs _ x y =>
      refine ⟨a, rfl, ⟨vs, sqt_mono g1.s x⟩, k _ G1 H1 g1 ⟨fun i d G' H' e a b => ?_, fun G' H' a b => ⟨vs, sqt_mono b (sqt_mono a x), Nat.le_of_eq (dpa_len y)⟩⟩⟩
      obtain ⟨v, e1, e2⟩ := dpa_get y e
      refine ⟨⟨vs, v, sqt_mono b (sqt_mono a x), e1⟩, fun z H2 w => ?_⟩
      obtain ⟨rfl, w⟩ := w
      cases e1.symm.trans (w vs (sqt_mono b (sqt_mono a x)))
      exact ⟨G', .refl b, dp_mono a e2⟩
theorem dip_list {ds : List D} (h : DP K tl ρ (.list ds)) : DIP K (iList K tl) ρ ds := fun σ G H E R k =>
  h σ G H E _ fun v G1 H1 g1 dv => by
    cases dv with
    | @lst a vs _ x y =>
      refine ⟨a, rfl, ⟨vs, g1.s.seq x⟩, k _ G1 H1 g1 ⟨fun i d G' H' e a b => ?_, fun G' H' a b => ⟨vs, b.seq (a.seq x), Nat.le_of_eq (dpa_len y)⟩⟩⟩
      obtain ⟨v, e1, e2⟩ := dpa_get y e
      refine ⟨⟨vs, v, b.seq (a.seq x), e1⟩, fun z H2 w => ?_⟩
      obtain ⟨rfl, w⟩ := w
      cases e1.symm.trans (w vs (b.seq (a.seq x)))
      exact ⟨G', .refl b, dp_mono a e2⟩
theorem dp_lcT {ds : List D} {j : Nat} {vs : List Nat} (F : D → D) (hj : (j ∈ vs) = True) (h : DP K tl ρ (.tuple ds)) (hz : ds.length < sizeLine) (he : ∀ d ∈ ds, DP K te ((wipeS ρ vs).set j (.va d)) (F d)) : DP K (tLc (iTup K tl) (gName j) tYes te vs) ρ (.list (ds.map F)) :=
  dp_lc F (of_eq_true hj) (dip_tup h) hz he
theorem dp_lcL {ds : List D} {j : Nat} {vs : List Nat} (F : D → D) (hj : (j ∈ vs) = True) (h : DP K tl ρ (.list ds)) (hz : ds.length < sizeLine) (he : ∀ d ∈ ds, DP K te ((wipeS ρ vs).set j (.va d)) (F d)) : DP K (tLc (iList K tl) (gName j) tYes te vs) ρ (.list (ds.map F)) :=
  dp_lc F (of_eq_true hj) (dip_list h) hz he
end
end DL

/-! More: sums, slices, stores into own lists, list(range(..)), least and greatest of two. -/
namespace DL
open PySem PySem.Spec PyProof.Rows L2
section
variable {K : Fg} {ρ : List Sl} {ta tb te tl : TE} {P : Po} {i j : Int} {d : D} {rest : TS}
theorem dp_sum {ns : List Int} (ha : DP K ta ρ (.list (ns.map .int))) : DP K (tCB (rSum K) (tCons ta tNil)) ρ (.int ns.sum) := dp_cb (dap_cons ha dap_nil) fun G H vs s a T k => by
  cases a with
  | cons a b =>
    cases b
    cases a with
    | lst h1 h2 =>
      have e := dpa_ints' h2
      subst e
      exact ⟨_, ns, rfl, s.seq h1, k _ _ G H rfl (.refl s) (.int _)⟩
abbrev rMax2 : List V → Hp → VK → Prop := fun xs H Q => ∃ i j, xs = [.int i, .int j] ∧ Q (.int (if j > i then j else i)) H
abbrev rMin2 : List V → Hp → VK → Prop := fun xs H Q => ∃ i j, xs = [.int i, .int j] ∧ Q (.int (if j < i then j else i)) H
theorem dp_max2 (ha : DP K ta ρ (.int i)) (hb : DP K tb ρ (.int j)) : DP K (tCB rMax2 (tCons ta (tCons tb tNil))) ρ (.int (if j > i then j else i)) := dp_cb (dap_cons ha (dap_cons hb dap_nil)) fun G H vs s a T k => by
  cases a with
  | cons a b =>
    cases a
    cases b with
    | cons b c => cases b; cases c; exact ⟨i, j, rfl, k _ _ G H rfl (.refl s) (.int _)⟩
theorem dp_min2 (ha : DP K ta ρ (.int i)) (hb : DP K tb ρ (.int j)) : DP K (tCB rMin2 (tCons ta (tCons tb tNil))) ρ (.int (if j < i then j else i)) := dp_cb (dap_cons ha (dap_cons hb dap_nil)) fun G H vs s a T k => by
  cases a with
  | cons a b =>
    cases a
    cases b with
    | cons b c => cases b; cases c; exact ⟨i, j, rfl, k _ _ G H rfl (.refl s) (.int _)⟩
/-! ### parts -/
def DO (K : Fg) (to : TO) (ρ : List Sl) (o : Option Int) : Prop := ∀ (σ : L2.St) (G H : Hp), EnvOk K G H σ ρ → ∀ T : Option Int → Hp → Prop, (∀ G' H', Grow G H G' H' → T o H') → to σ H T
theorem do_none : DO K tNoPart ρ none := fun σ G H E T k => k G H (.refl E.sub)
theorem do_some (h : DP K te ρ (.int i)) : DO K (tPart te) ρ (some i) := fun σ G H E T k => h σ G H E _ fun v G1 H1 g dv => by
  cases dv
  exact ⟨i, rfl, k G1 H1 g⟩
def cutD (xs : List D) (lo hi : Option Int) : List D := (xs.drop (HT.sIx xs.length 0 lo)).take (HT.sIx xs.length xs.length hi - HT.sIx xs.length 0 lo)
theorem dpa_cutV {H : Hp} {ds : List D} {vs : List V} {lo hi : Option Int} (h : DpAll K H vs ds) : DpAll K H (cutV vs lo hi) (cutD ds lo hi) := by
  unfold cutV cutD
  rw [dpa_len h]
  exact dpa_take (dpa_drop h)
theorem dn_slice {tlo thi : TO} {ds : List D} {lo hi : Option Int} {Q : List D → List Sl → Prop} (h : DP K tl ρ (.list ds)) (h1 : DO K tlo ρ lo) (h2 : DO K thi ρ hi) (q : Q (cutD ds lo hi) ρ) : DN K (tSl (rSlL K) tl tlo thi) ρ Q := fun σ G H E T k =>
  h σ G H E _ fun v G1 H1 g1 dv => h1 σ G1 H1 (E.grow g1) _ fun G2 H2 g2 => h2 σ G2 H2 ((E.grow g1).grow g2) _ fun G3 H3 g3 => by
    cases dv with
    | @lst a vs _ x y =>
      have g := (g1.trans g2).trans g3
      have E3 := E.grow g
      refine ⟨a, vs, rfl, g3.s.seq (g3.g.seq (g2.g.seq x)), fun p hp => ?_⟩
      have gp : G3 p = none := none_back g3.s hp
      refine k p _ (cutV vs lo hi) ρ G3 (upd H3 p (.lst (cutV vs lo hi))) q ?_ ?_ (none_back g.h hp) gp upd_same ?_ (dpa_cutV (dpa_mono (g2.g.trans g3.g) y))
      · have s := g.step (ρ := ρ)
        exact ⟨s.g, fun b o hb hc => by rw [upd_ne (ne_of_none (s.fr b o hb hc) hp)]; exact s.fr b o hb hc, fun b hb => by
          by_cases z : b = p
          · subst z; exact none_back g.h hp
          · rw [upd_ne z] at hb; exact s.dom b hb, s.nw, s.cl⟩
      · exact ⟨fun b o hb => by rw [upd_ne (ne_of_none hb gp)]; exact E3.sub b o hb, E3.va, fun i a es hi => by
          obtain ⟨a1, a2, us, a3, a4⟩ := E3.ce i a es hi
          exact ⟨a1, a2, us, by rw [upd_ne (ne_of_none a3 hp)]; exact a3, a4⟩, E3.dj, E3.len⟩
      · rintro ⟨i, es, hi⟩
        obtain ⟨_, _, us, a3, _⟩ := E3.ce i p es hi
        rw [hp] at a3; cases a3
theorem dp_sliceL {tlo thi : TO} {ds : List D} {lo hi : Option Int} (h : DP K tl ρ (.list ds)) (h1 : DO K tlo ρ lo) (h2 : DO K thi ρ hi) : DP K (tSl (rSlL K) tl tlo thi) ρ (.list (cutD ds lo hi)) := fun σ G H E T k =>
  h σ G H E _ fun v G1 H1 g1 dv => h1 σ G1 H1 (E.grow g1) _ fun G2 H2 g2 => h2 σ G2 H2 ((E.grow g1).grow g2) _ fun G3 H3 g3 => by
    cases dv with
    | @lst a vs _ x y =>
      have g := (g1.trans g2).trans g3
      refine ⟨a, vs, rfl, g3.s.seq (g3.g.seq (g2.g.seq x)), fun p hp => ?_⟩
      have gn := Grow.new g3.s hp (.lst (cutV vs lo hi))
      exact k (.ref p) _ _ (g.trans gn) (.lst (.of upd_same) (dpa_mono gn.g (dpa_cutV (dpa_mono (g2.g.trans g3.g) y))))
/-- a new list -/
theorem dn_lst {ta : TA} {Q : List D → List Sl → Prop} (ha : DA K ta ρ fun ds ρ1 => ds.length ≤ sizeLine ∧ Q ds ρ1) : DN K (tLst ta) ρ Q := fun σ G H E T k =>
  ha σ G H E _ fun vs ds ρ1 G1 H1 ⟨hl, q⟩ s E1 dv => ⟨by rw [dpa_len dv]; exact hl, fun p hp => by
    have gp : G1 p = none := none_back E1.sub hp
    refine k p ds vs ρ1 G1 (upd H1 p (.lst vs)) q ?_ ?_ (s.dom p hp) gp upd_same ?_ dv
    · exact ⟨s.g, fun b o hb hc => by rw [upd_ne (ne_of_none (s.fr b o hb hc) hp)]; exact s.fr b o hb hc, fun b hb => by
        by_cases z : b = p
        · subst z; exact s.dom b hp
        · rw [upd_ne z] at hb; exact s.dom b hb, s.nw, s.cl⟩
    · exact ⟨fun b o hb => by rw [upd_ne (ne_of_none hb gp)]; exact E1.sub b o hb, E1.va, fun i a es hi => by
        obtain ⟨a1, a2, us, a3, a4⟩ := E1.ce i a es hi
        exact ⟨a1, a2, us, by rw [upd_ne (ne_of_none a3 hp)]; exact a3, a4⟩, E1.dj, E1.len⟩
    · rintro ⟨i, es, hi⟩
      obtain ⟨_, _, us, a3, _⟩ := E1.ce i p es hi
      rw [hp] at a3; cases a3⟩
theorem ds_retL (h : DN K te ρ P.rn) : DS K (tRet te) ρ P := fun σ G H Z E z =>
  h σ G H E _ fun p ds vs ρ1 G1 H1 q s E1 hp gp h1 nc dv => z.rn p ds vs σ ρ1 G1 H1 q s E1 hp gp h1 nc dv
/-- a slot takes a fresh list as its own -/
theorem ds_cell {k : Nat} (hk : k < ρ.length) (h : DN K te ρ fun ds ρ1 => ρ1.length = ρ.length ∧ ∀ p, ¬ Cell ρ1 p → DS K rest (ρ1.set k (.ce p ds)) P) : DS K (tSeq (tAsg te (gName k)) rest) ρ P := fun σ G H Z E z =>
  h σ G H E _ fun p ds vs ρ1 G1 H1 ⟨hl, q⟩ s E1 hp gp h1 nc dv => by
    have hk1 : k < ρ1.length := by omega
    refine q p nc (σ.set k (some (.ref p))) G1 H1 Z ⟨E1.sub, fun i d hi => ?_, fun i a es hi => ?_, fun i j a es fs hi hj => ?_, by rw [List.length_set, List.length_set]; exact E1.len⟩ (z.step ⟨s.g, s.fr, s.dom, s.nw, fun b hb => ?_⟩)
    · by_cases y : k = i
      · subst y; rw [List.getElem?_set_self hk1] at hi; cases hi
      · rw [List.getElem?_set_ne y] at hi ⊢; exact E1.va i d hi
    · by_cases y : k = i
      · subst y
        rw [List.getElem?_set_self hk1] at hi; cases hi
        exact ⟨by rw [List.getElem?_set_self (by rw [E1.len]; exact hk1)], gp, vs, h1, dv⟩
      · rw [List.getElem?_set_ne y] at hi ⊢; exact E1.ce i a es hi
    · by_cases y : k = i
      · by_cases x : k = j
        · omega
        · subst y
          rw [List.getElem?_set_self hk1] at hi; cases hi
          rw [List.getElem?_set_ne x] at hj
          exact absurd ⟨j, fs, hj⟩ nc
      · by_cases x : k = j
        · subst x
          rw [List.getElem?_set_self hk1] at hj; cases hj
          rw [List.getElem?_set_ne y] at hi
          exact absurd ⟨i, es, hi⟩ nc
        · rw [List.getElem?_set_ne y] at hi
          rw [List.getElem?_set_ne x] at hj
          exact E1.dj i j a es fs hi hj
    · obtain ⟨i, es, hi⟩ := hb
      by_cases y : k = i
      · subst y; rw [List.getElem?_set_self hk1] at hi; cases hi; exact .inr hp
      · rw [List.getElem?_set_ne y] at hi; exact s.cl b ⟨i, es, hi⟩
/-- c[i] = e, c an own list -/
theorem EnvOk.setc {G H : Hp} {σ : L2.St} {k : Nat} {p : Addr} {cs es : List D} {ws : List V} (E : EnvOk K G H σ ρ) (hk : ρ[k]? = some (.ce p cs)) (dw : DpAll K G ws es) :
    EnvOk K G (upd H p (.lst ws)) σ (ρ.set k (.ce p es)) ∧ Step ρ G H (ρ.set k (.ce p es)) G (upd H p (.lst ws)) := by
  obtain ⟨a1, a2, us, a3, a4⟩ := E.ce k p cs hk
  refine E.cell hk ⟨.refl G, fun b o hb => ?_, fun b o hb h => ?_, fun b hb => ?_, fun b o hb => .inl hb, a2⟩ upd_same dw
  · rw [upd_ne (ne_of_none hb a2)]; exact E.sub b o hb
  · rw [upd_ne hb]; exact h
  · by_cases z : b = p
    · subst z; rw [upd_same] at hb; cases hb
    · rw [upd_ne z] at hb; exact hb
theorem ds_setC {k : Nat} {p : Addr} {n : Int} {j : Nat} {ti : TE} {cs : List D} (hk : ρ[k]? = some (.ce p cs)) (h : DP K te ρ d) (hi : DP K ti ρ (.int n)) (hj : ixN cs.length n = some j) (q : P.nx (ρ.set k (.ce p (cs.set j d)))) : DS K (tAsg te (gSub (tVar k) ti rSetL)) ρ P := fun σ G H Z E z =>
  h σ G H E _ fun v G1 H1 g1 dv => by
    have E1 := E.grow g1
    obtain ⟨a1, a2, us, a3, a4⟩ := E1.ce k p cs hk
    refine ⟨.ref p, a1, hi σ G1 H1 E1 _ fun x G2 H2 g2 dx => ?_⟩
    cases dx
    have E2 := E1.grow g2
    obtain ⟨b1, b2, ws, b3, b4⟩ := E2.ce k p cs hk
    refine ⟨p, ws, n, j, rfl, rfl, b3, by rw [dpa_len b4]; exact hj, ?_⟩
    obtain ⟨E3, s3⟩ := E2.setc hk (dpa_set (dp_mono g2.g dv) b4 (i := j))
    exact z.nx σ _ G2 _ q ((g1.step.trans g2.step).trans s3) E3
/-- c.append(e) -/
theorem ds_app {k : Nat} {p : Addr} {cs : List D} (hk : ρ[k]? = some (.ce p cs)) (h : DP K te ρ d) (hl : cs.length < sizeLine) (q : P.nx (ρ.set k (.ce p (cs ++ [d])))) : DS K (tDrop (tBM K "list" rAppend (tVar k) (tCons te tNil))) ρ P := fun σ G H Z E z => by
  obtain ⟨a1, a2, us, a3, a4⟩ := E.ce k p cs hk
  refine ⟨.ref p, a1, .inl ⟨rfl, _, .inl (.inl a3)⟩, h σ G H E _ fun v G1 H1 g1 dv => ?_⟩
  have E1 := E.grow g1
  obtain ⟨b1, b2, ws, b3, b4⟩ := E1.ce k p cs hk
  refine ⟨p, ws, v, rfl, rfl, b3, by rw [dpa_len b4]; exact hl, ?_⟩
  obtain ⟨E3, s3⟩ := E1.setc hk (dpa_app b4 (.cons dv .nil))
  exact z.nx σ _ G1 _ q (g1.step.trans s3) E3
/-- c.append(e), e drawing -/
theorem ds_appE {k : Nat} {p : Addr} {cs : List D} (hk : ρ[k]? = some (.ce p cs)) (h : DE K te ρ fun d ρ1 => ∃ es, ρ1[k]? = some (.ce p es) ∧ es.length < sizeLine ∧ P.nx (ρ1.set k (.ce p (es ++ [d])))) : DS K (tDrop (tBM K "list" rAppend (tVar k) (tCons te tNil))) ρ P := fun σ G H Z E z => by
  obtain ⟨a1, a2, us, a3, a4⟩ := E.ce k p cs hk
  refine ⟨.ref p, a1, .inl ⟨rfl, _, .inl (.inl a3)⟩, h σ G H E _ fun v d ρ1 G1 H1 ⟨es, he, hl, q⟩ s1 E1 dv => ?_⟩
  obtain ⟨b1, b2, ws, b3, b4⟩ := E1.ce k p es he
  refine ⟨p, ws, v, rfl, rfl, b3, by rw [dpa_len b4]; exact hl, ?_⟩
  obtain ⟨E3, s3⟩ := E1.setc he (dpa_app b4 (.cons dv .nil))
  exact z.nx σ _ G1 _ q (s1.trans s3) E3
/-- list(range(n)) -/
theorem dpa_range {H : Hp} (a : Int) : ∀ l : List Nat, DpAll K H (l.map fun i => V.int (a + (i : Nat))) (l.map fun i : Nat => PyData.int (a + (i : Int)))
  | [] => .nil
  | i :: l => .cons (.int _) (dpa_range a l)
theorem dp_listRg1 {n : Int} (ha : DP K ta ρ (.int n)) (h : RgOk 0 n) : DP K (tLstRg (tRg1 ta)) ρ (.list ((List.range n.toNat).map fun i : Nat => .int (i : Int))) := fun σ G H E T k =>
  ha σ G H E _ fun v G1 H1 g1 dv => by
    cases dv
    refine ⟨n, rfl, h, fun q hq => ?_⟩
    have gn := Grow.new g1.s hq (.lst (rgV 0 n))
    have key : ∀ H' : Hp, DpAll K H' (rgV 0 n) ((List.range n.toNat).map fun i : Nat => PyData.int (i : Int)) := fun H' => by
      have h0 := dpa_range (K := K) (H := H') 0 (List.range n.toNat)
      unfold rgV
      rw [Int.sub_zero]
      simpa using h0
    exact k (.ref q) _ _ (g1.trans gn) (.lst (.of upd_same) (key _))
theorem dp_listRg2 {m n : Int} (ha : DP K ta ρ (.int m)) (hb : DP K tb ρ (.int n)) (h : RgOk m n) : DP K (tLstRg (tRg2 ta tb)) ρ (.list ((List.range (n - m).toNat).map fun i : Nat => .int (m + (i : Int)))) := fun σ G H E T k =>
  ha σ G H E _ fun v G1 H1 g1 dv => hb σ G1 H1 (E.grow g1) _ fun u G2 H2 g2 du => by
    cases dv; cases du
    refine ⟨m, n, rfl, rfl, h, fun q hq => ?_⟩
    have gn := Grow.new g2.s hq (.lst (rgV m n))
    exact k (.ref q) _ _ ((g1.trans g2).trans gn) (.lst (.of upd_same) (dpa_range m _))
end
end DL

set_option maxHeartbeats 2000000
/-! The head's facts: defs by names, global data. -/
namespace DL
open PySem PySem.Spec PyProof.Rows L2
mutual
def datB (K : Fg) : D → Value → Bool
  | .none, .none => true
  | .bool b, .bool c => b == c
  | .int i, .int j _ => decide (i = j)
  | .str x, .str y _ => decide (x = y)
  | .tuple ds, .ref a => (match K.lookup a with
    | some ⟨.type c, _, .seq its _, _⟩ => decide (c = "tuple") && (decide (its.size ≤ sizeLine) && datA K ds its.toList)
    | _ => false)
  | .list ds, .ref a => (match K.lookup a with
    | some ⟨.type c, none, .seq its _, _⟩ => decide (c = "list") && (decide (its.size ≤ sizeLine) && datA K ds its.toList)
    | _ => false)
  | _, _ => false
def datA (K : Fg) : List D → List Value → Bool
  | [], [] => true
  | d :: ds, u :: us => datB K d u && datA K ds us
  | _, _ => false
end
theorem ba2 {a b : Bool} (h : (a && b) = true) : a = true ∧ b = true := Bool.and_eq_true_iff.mp h
mutual
theorem datB_ok {K : Fg} : ∀ {d : D} {u : Value}, datB K d u = true → ∃ v, RelV v u ∧ ∀ H, Dp K H v d
  | .none, u, h => by
    cases u <;> first | (unfold datB at h; cases h; done) | exact ⟨.non, rfl, fun _ => .non⟩
  | .bool b, u, h => by
    cases u <;> first | (unfold datB at h; cases h; done) | skip
    rename_i c
    have e : b = c := by unfold datB at h; exact eq_of_beq h
    exact ⟨.bl b, by rw [e]; rfl, fun _ => .bl b⟩
  | .int i, u, h => by
    cases u <;> first | (unfold datB at h; cases h; done) | skip
    rename_i j t
    have e : i = j := by unfold datB at h; exact of_decide_eq_true h
    exact ⟨.int i, ⟨t, by rw [e]⟩, fun _ => .int i⟩
  | .str x, u, h => by
    cases u <;> first | (unfold datB at h; cases h; done) | skip
    rename_i y t
    have e : x = y := by unfold datB at h; exact of_decide_eq_true h
    exact ⟨.str x, ⟨t, by rw [e]⟩, fun _ => .str x⟩
  | .tuple ds, u, h => by
    cases u <;> first | (unfold datB at h; cases h; done) | skip
    rename_i a
    unfold datB at h
    cases q : K.lookup a with
    | none => rw [q] at h; cases h
    | some o =>
      obtain ⟨oc, od, dt, sl⟩ := o
      rw [q] at h
      cases oc <;> first | (cases dt <;> cases h; done) | skip
      cases dt <;> first | (cases h; done) | skip
      rename_i c its n
      obtain ⟨h1, h2⟩ := ba2 (show (decide (c = "tuple") && (decide (its.size ≤ sizeLine) && datA K ds its.toList)) = true from h)
      obtain ⟨h3, h4⟩ := ba2 h2
      obtain ⟨vs, r, f⟩ := datA_ok h4
      exact ⟨.ref a, rfl, fun H => .tup (.inr ⟨_, its, n, q, congrArg Value.type (of_decide_eq_true h1), rfl, of_decide_eq_true h3, r⟩) (f H)⟩
  | .list ds, u, h => by
    cases u <;> first | (unfold datB at h; cases h; done) | skip
    rename_i a
    unfold datB at h
    cases q : K.lookup a with
    | none => rw [q] at h; cases h
    | some o =>
      obtain ⟨oc, od, dt, sl⟩ := o
      rw [q] at h
      cases oc <;> first | (cases od <;> cases dt <;> cases h; done) | skip
      cases od <;> first | (cases dt <;> cases h; done) | skip
      cases dt <;> first | (cases h; done) | skip
      rename_i c its n
      obtain ⟨h1, h2⟩ := ba2 (show (decide (c = "list") && (decide (its.size ≤ sizeLine) && datA K ds its.toList)) = true from h)
      obtain ⟨h3, h4⟩ := ba2 h2
      obtain ⟨vs, r, f⟩ := datA_ok h4
      exact ⟨.ref a, rfl, fun H => .lst (.inr ⟨_, its, n, q, congrArg Value.type (of_decide_eq_true h1), rfl, rfl, of_decide_eq_true h3, r⟩) (f H)⟩
  | .dict _, u, h => by
    cases u <;> (unfold datB at h; cases h)
theorem datA_ok {K : Fg} : ∀ {ds : List D} {us : List Value}, datA K ds us = true → ∃ vs, Vals vs us ∧ ∀ H, DpAll K H vs ds
  | [], [], _ => ⟨[], .nil, fun _ => .nil⟩
  | [], _ :: _, h => by unfold datA at h; cases h
  | _ :: _, [], h => by unfold datA at h; cases h
  | d :: ds, u :: us, h => by
    unfold datA at h
    obtain ⟨h1, h2⟩ := ba2 h
    obtain ⟨v, r, f⟩ := datB_ok h1
    obtain ⟨vs, rs, fs⟩ := datA_ok h2
    exact ⟨v :: vs, .cons r rs, fun H => .cons (f H) (fs H)⟩
end
/-- a fact of the module's names -/
inductive Gf where
  | def_ (x : Str)
  | free (x : Str)
  | dat (x : Str) (d : D)
  | blt (x : Str) (id : String)
def Gf.ok (K : Fg) : Gf → Bool
  | .def_ x => (He.Fa.glo x).ok K
  | .free x => (He.Fa.free x).ok K
  | .dat x d => (match PySem.W.nsIn K mainGlobals x with
    | some (some u) => datB K d u
    | _ => false)
  | .blt x id => (match PySem.W.nsIn K mainGlobals x with
    | some (some (.builtin j)) => decide (j = id)
    | _ => false)
section
variable {K : Fg} {h : Heap} {mg : Str → Option Value}
theorem gdat_ok (X : K.In h) (G : h.Ns mainGlobals mg) {x : Str} {d : D} (c : (Gf.dat x d).ok K = true) : ∃ v u, mg x = some u ∧ RelV v u ∧ ∀ H, Dp K H v d := by
  have c2 : (match PySem.W.nsIn K mainGlobals x with
    | some (some u) => datB K d u
    | _ => false) = true := c
  cases e : PySem.W.nsIn K mainGlobals x with
  | none => rw [e] at c2; cases c2
  | some o =>
    rw [e] at c2
    cases o with
    | none => cases c2
    | some u =>
      obtain ⟨v, r, f⟩ := datB_ok (show datB K d u = true from c2)
      exact ⟨v, u, PySem.W.mg_of X G e, r, f⟩
theorem gblt_ok (X : K.In h) (G : h.Ns mainGlobals mg) {x : Str} {id : String} (c : (Gf.blt x id).ok K = true) : mg x = some (.builtin id) := by
  have c2 : (match PySem.W.nsIn K mainGlobals x with
    | some (some (.builtin j)) => decide (j = id)
    | _ => false) = true := c
  cases e : PySem.W.nsIn K mainGlobals x with
  | none => rw [e] at c2; cases c2
  | some o =>
    rw [e] at c2
    cases o with
    | none => cases c2
    | some u =>
      cases u <;> first | (cases c2; done) | skip
      rename_i j
      have ej : j = id := of_decide_eq_true c2
      rw [PySem.W.mg_of X G e, ej]
end
def obsX (fa : List Gf) (fn : List He.DefD) (K : Fg) : He.AlD := ((fa.all fun f => f.ok K) && fn.all fun d => d.ok K, fn.map fun d => He.fnW K d.at_)
def SaysX (fa : List Gf) (fn : List He.DefD) (K : Fg) : Prop := obsX fa fn K = He.valD fn
def obsXG (n : Nat) (fa : List Gf) (fn : List He.DefD) (g : Addr → Option Obj) : He.AlD := obsX fa fn (He.frG g (He.asD g n))
def hookX (n : Nat) (fa : List Gf) (fn : List He.DefD) : PySem.W.Hook where
  α := He.AlD
  obs := fun s => obsXG n fa fn s.heap.get?
  val := fun _ => He.valD fn
  says := fun _ h => ∃ K : Fg, K.In h ∧ SaysX fa fn K
  of := fun _ _ e => ⟨_, He.frG_in, e⟩
  keeps := fun _ _ _ ⟨K, hK, c⟩ k => ⟨K, PySem.W.Frag.In.keeps hK k, c⟩
theorem obsXG_eq {n : Nat} {fa : List Gf} {fn : List He.DefD} {g : Addr → Option Obj} {s : Shared} (h : ∀ a, g a = s.heap.get? a) : obsXG n fa fn g = (hookX n fa fn).obs s := by
  have e : g = s.heap.get? := funext h
  rw [e] <;> rfl
section
variable {fa : List Gf} {fn : List He.DefD} {K : Fg}
theorem SaysX.fact (c : SaysX fa fn K) (i : Nat) {f : Gf} (h : fa[i]? = some f := by rfl) : f.ok K = true := by
  have c1 := (ba2 (show ((fa.all fun f => f.ok K) && fn.all fun d => d.ok K) = true from congrArg (fun z : He.AlD => z.1) c)).1
  exact List.all_eq_true.mp c1 f (List.mem_of_getElem? h)
theorem SaysX.def_ (c : SaysX fa fn K) (i : Nat) {d : He.DefD} (h : fn[i]? = some d := by rfl) : ∃ fd, FunD K d.name d.qual d.params d.body d.scope (d.dvs K) (d.kws K) (He.fAd K d.at_) fd := by
  have c2 := (ba2 (show ((fa.all fun f => f.ok K) && fn.all fun d => d.ok K) = true from congrArg (fun z : He.AlD => z.1) c)).2
  have e : fn.map (fun d => He.fnW K d.at_) = fn.map He.DefD.val := congrArg (fun z : He.AlD => z.2) c
  have e2 : (fn.map fun d => He.fnW K d.at_)[i]? = (fn.map He.DefD.val)[i]? := by rw [e]
  rw [List.getElem?_map, List.getElem?_map, h] at e2
  exact He.DefD.funD (Option.some.inj e2) (List.all_eq_true.mp c2 d (List.mem_of_getElem? h))
end
/-- a plain def of the text as it stands behind the top -/
abbrev FnX (K : Fg) (x : Str) (st : Stmt) (f : Addr) (fd : FuncData) : Prop := FunD K x x (defArgs st) (defBody st) (defScope st) [] [] f fd
def defX (x : Str) (st : Stmt) : He.DefD := ⟨(x, none), x, x, defArgs st, defBody st, defScope st, [], []⟩
end DL

/-! Defs by name, short rules, a tactic for plain expressions. -/
namespace DL
open PySem PySem.Spec PyProof.Rows L2
section
variable {K : Fg} {ρ : List Sl} {Pg : Program} {w : World} {mg : Str → Option Value} {base : Heap}
theorem FnX.ok0 {x qual : Str} {params : Arguments} {body : List Stmt} {scope : Scope} {f : Addr} {fd : FuncData} {N ps : List Str} {k : Nat} {sp : Sp} (F : FunD K x qual params body scope [] [] f fd) (S : FnScope N ps scope) (len : ∀ vs H Q E, sp vs H Q E → vs.length = ps.length)
    (hbody : ∀ (cdv : Value) (A : Around) (outer : List Env) (s : Shared) (H : Hp) (vs : List V) (Q : VK) (E : XK), Room k (A.deeper (envOfC qual scope s.heap.objs.size f cdv)) → sp vs H Q E →
      ∃ t, PSs (cxOf CX0 Pg w K mg base N qual scope f cdv A outer s H E).nox body t ∧ t { nx := fun _ H' => Q .non H', rt := Q } (L2.start N vs) H) : FnOk Pg w K mg base CX0 (k + 1) f fd ps sp :=
  F.ok S len fun cdv A outer s H vs Q E hr h => by
    obtain ⟨t, h1, h2⟩ := hbody cdv A outer s H vs Q E hr h
    exact ⟨t, h1.nox, h2⟩
/-- a def that is known by its name -/
structure OkF (Pg : Program) (w : World) (K : Fg) (mg : Str → Option Value) (base : Heap) (x : Str) (k : Nat) (ps : List Str) (sp : Sp) : Prop where
  ex : ∃ f fd, FnOk Pg w K mg base CX0 k f fd ps sp ∧ mg x = some (.ref f) ∧ PySem.W.keepIn K (.ref f) = true ∧ Binds K fd ps []
theorem pe_cl {X : Cx} {x : Str} {k : Nat} {ps : List Str} {sp : Sp} {e : Expr} {es : List Expr} {t : TA} {p pos : Pos} (F : OkF X.prog X.w X.K X.mg X.base x k ps sp) (hr : Room k X.A) (ha : PA X (e :: es) t) (hg : Gl X x := by rfl)
    (hdb : (x == ("__debug__" : Str)) = false := by decide) (he : starEach (e :: es) X.env = (false, eval e X.env) :: starEach es X.env := by rfl) (hpl : (backTo pos (starEach es X.env)).any (·.1) = false := by rfl) : PE X (.Call (.Name x p) (e :: es) [] pos) (tCall sp [] E0 t) := by
  obtain ⟨f, fd, G, gm, kp, b⟩ := F.ex
  exact pe_call G hr hg gm kp b .nil pass0 ha hdb he hpl
/-- what a def's body is to show -/
def Bod (Pg : Program) (w : World) (K : Fg) (mg : Str → Option Value) (base : Heap) (x : Str) (st : Stmt) (N : List Str) (k : Nat) (R : TS → Prop) : Prop :=
  ∀ (f : Addr) (cdv : Value) (A : Around) (outer : List Env) (s : Shared) (H : Hp) (E : XK), Room k (A.deeper (envOfC x (defScope st) s.heap.objs.size f cdv)) →
    ∃ t, PSs (cxOf CX0 Pg w K mg base N x (defScope st) f cdv A outer s H E).nox (defBody st) t ∧ R t
/-- the head's word on a def -/
structure DfX (K : Fg) (mg : Str → Option Value) (x : Str) (st : Stmt) (ps : List Str) : Prop where
  ex : ∃ f fd, FnX K x st f fd ∧ mg x = some (.ref f) ∧ Binds K fd ps []
theorem dfX {x : Str} {st : Stmt} {ps : List Str} {h : Heap} {fa : List Gf} {fn : List He.DefD} (X : K.In h) (G : h.Ns mainGlobals mg) (c : SaysX fa fn K) (i j : Nat) (hi : fn[i]? = some (defX x st)) (hj : fa[j]? = some (.def_ x))
    (hb : ∀ (kV doc pm : Value) (an : Option Addr) (cdv ct : Value) (us : List Value), us.length = ps.length → bindArgs (PySem.W.fnOf x x (defArgs st) (defBody st) (defScope st) .none kV doc pm an cdv ct) ⟨us, []⟩ = pure (ps.zip us)) : DfX K mg x st ps := by
  obtain ⟨fd, F⟩ := c.def_ i hi
  exact ⟨_, fd, F, He.glo_ok X G (c.fact j hj), FunD.bindsN F hb⟩
theorem okP {x : Str} {st : Stmt} {N ps : List Str} {k : Nat} {c : Call} (D0 : DfX K mg x st ps) (S : FnScope N ps (defScope st)) (len : ∀ ds T, c ds T → ds.length = ps.length)
    (hb : Bod Pg w K mg base x st N k fun t => ∀ ds T, c ds T → DS K t (initS N ds) { nx := fun _ => T .none, rt := fun d _ => T d }) : OkF Pg w K mg base x (k + 1) ps (spP K c) := by
  obtain ⟨f, fd, F, gm, b⟩ := D0.ex
  refine ⟨f, fd, FnX.ok0 F S (fun vs H Q E h => ?_) (fun cdv A outer s H vs Q E hr h => ?_), gm, F.kp, b⟩
  · obtain ⟨G, ds, T, _, dv, hc, _⟩ := h
    rw [dpa_len dv]
    exact len ds T hc
  · obtain ⟨G, ds, T, e, dv, hc, q⟩ := h
    obtain ⟨t, ht, hd⟩ := hb f cdv A outer s H E hr
    refine ⟨t, ht, hd ds T hc _ G H _ (env_start e dv) ⟨?_, ?_, ?_, ?_, ?_⟩⟩
    · intro σ' ρ' G' H' z s' e'
      exact q .non .none G' H' z (s'.grows (fun b => nocell_init) e'.sub) .non
    · intro v d σ' ρ' G' H' z s' e' dd
      exact q v d G' H' z (s'.grows (fun b => nocell_init) e'.sub) dd
    · intro _ _ _ _ z; exact z.elim
    · intro _ _ _ _ z; exact z.elim
    · intro _ _ _ _ _ _ _ z; exact z.elim
theorem okN {x : Str} {st : Stmt} {N ps : List Str} {k : Nat} {c : List D → (List D → Prop) → Prop} (D0 : DfX K mg x st ps) (S : FnScope N ps (defScope st)) (len : ∀ ds T, c ds T → ds.length = ps.length)
    (hb : Bod Pg w K mg base x st N k fun t => ∀ ds T, c ds T → DS K t (initS N ds) { nx := fun _ => False, rt := fun _ _ => False, rn := fun es _ => T es }) : OkF Pg w K mg base x (k + 1) ps (spN K c) := by
  obtain ⟨f, fd, F, gm, b⟩ := D0.ex
  refine ⟨f, fd, FnX.ok0 F S (fun vs H Q E h => ?_) (fun cdv A outer s H vs Q E hr h => ?_), gm, F.kp, b⟩
  · obtain ⟨G, ds, T, _, dv, hc, _⟩ := h
    rw [dpa_len dv]
    exact len ds T hc
  · obtain ⟨G, ds, T, e, dv, hc, q⟩ := h
    obtain ⟨t, ht, hd⟩ := hb f cdv A outer s H E hr
    refine ⟨t, ht, hd ds T hc _ G H _ (env_start e dv) ⟨?_, ?_, ?_, ?_, ?_⟩⟩
    · intro _ _ _ _ z; exact z.elim
    · intro _ _ _ _ _ _ z; exact z.elim
    · intro _ _ _ _ z; exact z.elim
    · intro _ _ _ _ z; exact z.elim
    · intro p es us σ' ρ' G' H' z s' e' hp gp h1 nc dd
      exact q p es us G' H' z (s'.grows (fun b => nocell_init) e'.sub) hp gp h1 dd
theorem okC {x : Str} {st : Stmt} {N ps : List Str} {k : Nat} {c : CallC} (D0 : DfX K mg x st ps) (S : FnScope N ps (defScope st)) (len : ∀ cs ds T, c cs ds T → ds.length + 1 = ps.length)
    (hb : Bod Pg w K mg base x st N k fun t => ∀ p cs ds T, c cs ds T → DS K t (initC N p cs ds) { nx := fun ρ' => ∃ es, ρ'[0]? = some (.ce p es) ∧ T .none es, rt := fun d ρ' => ∃ es, ρ'[0]? = some (.ce p es) ∧ T d es }) : OkF Pg w K mg base x (k + 1) ps (spC K c) := by
  obtain ⟨f, fd, F, gm, b⟩ := D0.ex
  refine ⟨f, fd, FnX.ok0 F S (fun vs H Q E h => ?_) (fun cdv A outer s H vs Q E hr h => ?_), gm, F.kp, b⟩
  · obtain ⟨G, p, us, vs', cs, ds, T, rfl, _, _, _, _, dv, hc, _⟩ := h
    rw [List.length_cons, dpa_len dv]
    exact len cs ds T hc
  · obtain ⟨G, p, us, vs', cs, ds, T, rfl, e, gp, hp, du, dv, hc, q⟩ := h
    obtain ⟨t, ht, hd⟩ := hb f cdv A outer s H E hr
    have hcell : ∀ b, Cell (initC N p cs ds) b → b = p := by
      rintro b ⟨i, fs, hi⟩
      cases i with
      | zero => cases (show some (Sl.ce p cs) = some (Sl.ce b fs) from hi); rfl
      | succ i => rcases initS_va (show (ds.map Sl.va ++ _)[i]? = some _ from hi) with ⟨_, _, z⟩ | z <;> cases z
    have E0 := env_startC (N := N) e gp hp du dv
    have fin : ∀ {σ' ρ' G' H' es}, Step (initC N p cs ds) G H ρ' G' H' → EnvOk K G' H' σ' ρ' → ρ'[0]? = some (.ce p es) → GrowX p G H G' H' ∧ ∃ ws, H' p = some (.lst ws) ∧ DpAll K G' ws es := by
      intro σ' ρ' G' H' es s' e' h0
      obtain ⟨b1, b2, ws, b3, b4⟩ := e'.ce 0 p es h0
      refine ⟨⟨s'.g, e'.sub, fun b o hb h => s'.fr b o h fun z => hb (hcell b z), s'.dom, fun b o hb => ?_, b2⟩, ws, b3, b4⟩
      rcases s'.nw b o hb with z | z | z
      · exact .inl z
      · exact .inr z
      · rw [hcell b z, b2] at hb; cases hb
    refine ⟨t, ht, hd p cs ds T hc _ G H _ E0 ⟨?_, ?_, ?_, ?_, ?_⟩⟩
    · rintro σ' ρ' G' H' ⟨es, h0, z⟩ s' e'
      obtain ⟨g, ws, h1, h2⟩ := fin s' e' h0
      exact q .non .none es ws G' H' z g h1 h2 .non
    · rintro v d σ' ρ' G' H' ⟨es, h0, z⟩ s' e' dd
      obtain ⟨g, ws, h1, h2⟩ := fin s' e' h0
      exact q v d es ws G' H' z g h1 h2 dd
    · intro _ _ _ _ z; exact z.elim
    · intro _ _ _ _ z; exact z.elim
    · intro _ _ _ _ _ _ _ z; exact z.elim
/-! ### built-in names -/
variable {X : Cx} {e : Expr} {es : List Expr} {t : TA} {p pos : Pos}
end
end DL

/-! Fractions as Rat. -/
namespace DL
open PySem PySem.Spec PyProof.Rows L2
abbrev eR (q : Rat) : D := .tuple [.int q.num, .int (q.den : Int)]
abbrev eQ (a b : Rat) : D := .tuple [eR a, eR b]
def SzR (n : Nat) (q : Rat) : Prop := q.num.natAbs < 2 ^ n ∧ q.den < 2 ^ n
theorem den_pos' (q : Rat) : (0 : Int) < (q.den : Int) := Int.natCast_pos.mpr q.den_pos
theorem fdiv_neg_neg {a b : Int} : Int.fdiv (-a) (-b) = Int.fdiv a b := by
  by_cases h : b = 0
  · subst h; simp
  · rw [Int.neg_fdiv_neg]
theorem red_pos {t l : Int} (h : 0 < l) : t.fdiv ((Nat.gcd t.natAbs l.natAbs : Nat) : Int) = (Rat.divInt t l).num ∧ l.fdiv ((Nat.gcd t.natAbs l.natAbs : Nat) : Int) = ((Rat.divInt t l).den : Int) := by
  have hg : (0 : Int) ≤ ((Nat.gcd t.natAbs l.natAbs : Nat) : Int) := Int.natCast_nonneg _
  rw [Int.fdiv_eq_ediv_of_nonneg _ hg, Int.fdiv_eq_ediv_of_nonneg _ hg, Rat.num_divInt, Rat.den_divInt, Int.sign_eq_one_of_pos h, Int.one_mul, if_neg (by omega)]
  have e : l.gcd t = Nat.gcd t.natAbs l.natAbs := by rw [Int.gcd_comm]; rfl
  rw [e]
  refine ⟨rfl, ?_⟩
  rw [Int.natCast_ediv, Int.natAbs_of_nonneg (by omega : 0 ≤ l)]
theorem red_neg {t l : Int} (h : l < 0) : t.fdiv (0 - ((Nat.gcd t.natAbs l.natAbs : Nat) : Int)) = (Rat.divInt t l).num ∧ l.fdiv (0 - ((Nat.gcd t.natAbs l.natAbs : Nat) : Int)) = ((Rat.divInt t l).den : Int) := by
  have := red_pos (t := -t) (l := -l) (by omega)
  rw [Int.natAbs_neg, Int.natAbs_neg, Rat.neg_divInt_neg] at this
  rw [Int.zero_sub]
  have a : ∀ x y : Int, (-x).fdiv y = x.fdiv (-y) := fun x y => by
    have := fdiv_neg_neg (a := x) (b := -y)
    rw [Int.neg_neg] at this
    exact this
  rw [a, a] at this
  exact this
theorem szR_num {n : Nat} {q : Rat} (h : SzR n q) : q.num.natAbs < 2 ^ n := h.1
theorem szR_den {n : Nat} {q : Rat} (h : SzR n q) : ((q.den : Int)).natAbs < 2 ^ n := by
  rw [Int.natAbs_natCast]; exact h.2
theorem szR_mono {m n : Nat} {q : Rat} (h : SzR m q) (l : m ≤ n) : SzR n q := ⟨Nat.lt_of_lt_of_le h.1 (Nat.pow_le_pow_right (by decide) l), Nat.lt_of_lt_of_le h.2 (Nat.pow_le_pow_right (by decide) l)⟩
theorem szR_divInt {t l : Int} {m : Nat} (hl : l ≠ 0) (a : t.natAbs < 2 ^ m) (b : l.natAbs < 2 ^ m) : SzR m (Rat.divInt t l) := by
  constructor
  · rw [Rat.num_divInt]
    have h1 : (l.sign * t / (l.gcd t : Int)).natAbs ≤ (l.sign * t).natAbs := Int.natAbs_ediv_le_natAbs _ _
    have h2 : (l.sign * t).natAbs ≤ t.natAbs := by
      rw [Int.natAbs_mul, Int.natAbs_sign_of_ne_zero hl, Nat.one_mul]
      exact Nat.le_refl _
    omega
  · rw [Rat.den_divInt, if_neg hl]
    exact Nat.lt_of_le_of_lt (Nat.div_le_self _ _) b
theorem nat_two_mul {a b m n : Nat} (h : a < 2 ^ m) (k : b < 2 ^ n) : a * b < 2 ^ (m + n) := by
  rw [Nat.pow_add]
  exact Nat.mul_lt_mul'' h k
theorem mul_lt2 {a b : Int} {m n : Nat} (h : a.natAbs < 2 ^ m) (k : b.natAbs < 2 ^ n) : (a * b).natAbs < 2 ^ (m + n) := by
  rw [Int.natAbs_mul]
  exact nat_two_mul h k
theorem add_lt2 {a b : Int} {m : Nat} (h : a.natAbs < 2 ^ m) (k : b.natAbs < 2 ^ m) : (a + b).natAbs < 2 ^ (m + 1) := by
  have := Int.natAbs_add_le a b
  rw [Nat.pow_succ]
  omega
theorem sub_lt2 {a b : Int} {m : Nat} (h : a.natAbs < 2 ^ m) (k : b.natAbs < 2 ^ m) : (a - b).natAbs < 2 ^ (m + 1) := by
  have := Int.natAbs_sub_le a b
  rw [Nat.pow_succ]
  omega
theorem lt2_mono {a : Int} {m n : Nat} (h : a.natAbs < 2 ^ m) (l : m ≤ n) : a.natAbs < 2 ^ n := Nat.lt_of_lt_of_le h (Nat.pow_le_pow_right (by decide) l)
theorem addE (a b : Rat) : Rat.divInt (a.num * (b.den : Int) + b.num * (a.den : Int)) ((a.den : Int) * (b.den : Int)) = a + b := by
  rw [Rat.add_def', ← Rat.divInt_ofNat, Int.natCast_mul]
theorem subE (a b : Rat) : Rat.divInt (a.num * (b.den : Int) - b.num * (a.den : Int)) ((a.den : Int) * (b.den : Int)) = a - b := by
  rw [Rat.sub_def', ← Rat.divInt_ofNat, Int.natCast_mul]
theorem mulE (a b : Rat) : Rat.divInt (a.num * b.num) ((a.den : Int) * (b.den : Int)) = a * b := by
  rw [Rat.mul_def', ← Rat.divInt_ofNat, Int.natCast_mul]
theorem divE (a b : Rat) : Rat.divInt (a.num * (b.den : Int)) ((a.den : Int) * b.num) = a / b := by
  rw [Rat.div_def, Rat.inv_def, ← Rat.divInt_mul_divInt, Rat.num_divInt_den]
theorem szR_add {a b : Rat} {m n : Nat} (h : SzR m a) (k : SzR n b) : SzR (m + n + 1) (a + b) := by
  rw [← addE]
  have z : (a.den : Int) * (b.den : Int) ≠ 0 := by
    have := Int.mul_pos (den_pos' a) (den_pos' b); omega
  refine szR_divInt z (add_lt2 (mul_lt2 h.1 (szR_den k)) ?_) (lt2_mono (mul_lt2 (szR_den h) (szR_den k)) (by omega))
  rw [Nat.add_comm]; exact mul_lt2 k.1 (szR_den h)
theorem szR_sub {a b : Rat} {m n : Nat} (h : SzR m a) (k : SzR n b) : SzR (m + n + 1) (a - b) := by
  rw [← subE]
  have z : (a.den : Int) * (b.den : Int) ≠ 0 := by
    have := Int.mul_pos (den_pos' a) (den_pos' b); omega
  refine szR_divInt z (sub_lt2 (mul_lt2 h.1 (szR_den k)) ?_) (lt2_mono (mul_lt2 (szR_den h) (szR_den k)) (by omega))
  rw [Nat.add_comm]; exact mul_lt2 k.1 (szR_den h)
theorem szR_mul {a b : Rat} {m n : Nat} (h : SzR m a) (k : SzR n b) : SzR (m + n) (a * b) := by
  rw [← mulE]
  have z : (a.den : Int) * (b.den : Int) ≠ 0 := by
    have := Int.mul_pos (den_pos' a) (den_pos' b); omega
  exact szR_divInt z (mul_lt2 h.1 k.1) (mul_lt2 (szR_den h) (szR_den k))
theorem szR_div {a b : Rat} {m n : Nat} (h : SzR m a) (k : SzR n b) (hb : b ≠ 0) : SzR (m + n) (a / b) := by
  rw [← divE]
  have z : (a.den : Int) * b.num ≠ 0 := Int.mul_ne_zero (by have := den_pos' a; omega) fun z => hb (Rat.num_eq_zero.mp z)
  exact szR_divInt z (mul_lt2 h.1 (szR_den k)) (mul_lt2 (szR_den h) k.1)
/-- what * and // ask -/
theorem cmul {i j : Int} {a b : Nat} (ha : i.natAbs < 2 ^ a) (hb : j.natAbs < 2 ^ b) (h : a + b ≤ 900000) : CMulW i j := by
  refine wide_mul (a := a + 1) (b := b + 1) (lt2_mono ha (by omega)) (lt2_mono hb (by omega)) (by omega) (by omega) (by omega)
theorem cdiv {i j : Int} {b : Nat} (h : j ≠ 0) (hb : j.natAbs < 2 ^ b) (h9 : b ≤ 8999) : CDivX i j := ⟨h, Nat.lt_of_lt_of_le (PySem.Flt.log2_lt_of (by omega) (lt2_mono hb (Nat.le_succ b))) (by omega)⟩
/-! ### equality -/
theorem eqv_int {i j : Int} : PyData.eqv (.int i) (.int j) = (i == j) := rfl
theorem eqv_eR {a b : Rat} : PyData.eqv (eR a) (eR b) = decide (a = b) := by
  show ((a.num == b.num) && (((a.den : Int) == (b.den : Int)) && true)) = decide (a = b)
  by_cases h : a = b
  · subst h; simp
  · rw [decide_eq_false h, Bool.and_true]
    by_cases h1 : a.num = b.num
    · have h2 : a.den ≠ b.den := fun h2 => h (Rat.ext h1 h2)
      have h3 : ((a.den : Int) == (b.den : Int)) = false := by
        rw [beq_eq_false_iff_ne]; omega
      rw [h3, Bool.and_false]
    · have : (a.num == b.num) = false := beq_eq_false_iff_ne.mpr h1
      rw [this, Bool.false_and]
theorem eqv_eQ {a b c d : Rat} : PyData.eqv (eQ a b) (eQ c d) = (decide (a = c) && decide (b = d)) := by
  show (PyData.eqv (eR a) (eR c) && (PyData.eqv (eR b) (eR d) && true)) = _
  rw [eqv_eR, eqv_eR, Bool.and_true]
theorem sh_eR {a : Rat} : SeqAt.shaped (eR a) = true := rfl
theorem sh_eQ {a b : Rat} : SeqAt.shaped (eQ a b) = true := rfl
end DL

/-! More: three at once, picks out of a list, powers, bodies of loops. -/
namespace DL
open PySem PySem.Spec PyProof.Rows L2
section
variable {K : Fg} {ρ : List Sl} {ta tb te tl : TE} {P : Po} {i j k : Int} {d : D} {rest : TS}
theorem ds_par3 {i j l : Nat} {ta : TA} (h : DA K ta ρ fun ds ρ1 => ∃ d e f, ds = [d, e, f] ∧ P.nx (((ρ1.set i (.va d)).set j (.va e)).set l (.va f))) : DS K (tPar3 i j l ta) ρ P := fun σ G H Z E z =>
  h σ G H E _ fun vs ds ρ1 G1 H1 ⟨d, e, f, q, p⟩ s E1 dv => by
    subst q
    cases dv with
    | cons a b => cases b with
      | cons b c => cases c with
        | cons c w => cases w; exact ⟨_, _, _, rfl, z.nx _ _ G1 H1 p (((s.set i d).set j e).set l f) (((E1.set i a).set j b).set l c)⟩
theorem atI_pos {α : Type} {xs : List α} {k : Int} {n : Nat} (h : k = (n : Int)) (hn : n < xs.length) : atI xs k = some xs[n] := by
  subst h
  unfold atI
  have e : ixN xs.length (n : Int) = some n := by
    unfold ixN
    rw [if_pos (Int.natCast_nonneg _), if_pos (by exact_mod_cast hn), Int.toNat_natCast]
  rw [e]
  exact List.getElem?_eq_getElem hn
theorem dp_pick {ns : List Int} {lo hi : Int} (hb : ∀ n ∈ ns, lo < n ∧ n < hi) (ha : DP K ta ρ (.list (ns.map .int))) (hi' : DP K tb ρ (.int k)) (h0 : 0 ≤ k) (hk : k < (ns.length : Int)) : ∃ n : Int, lo < n ∧ n < hi ∧ DP K (tOp (rIxL K) ta tb) ρ (.int n) := by
  have hn : k.toNat < ns.length := by omega
  refine ⟨ns[k.toNat], (hb _ (List.getElem_mem hn)).1, (hb _ (List.getElem_mem hn)).2, dp_ixL ha hi' ?_⟩
  have := atI_pos (xs := ns.map PyData.int) (k := k) (n := k.toNat) (by omega) (by rw [List.length_map]; exact hn)
  rw [this, List.getElem_map]
theorem cpow {i j : Int} {b : Nat} (h0 : 0 ≤ j) (hb : i.natAbs < 2 ^ b) (h : (b : Int) * j ≤ 2 ^ 27) : CPowX i j := ⟨h0, by
  have h1 : (Builtin.Int.intBits i : Int) ≤ (b : Int) := by exact_mod_cast intBits_le_iff.mpr hb
  exact Int.le_trans (Int.mul_le_mul_of_nonneg_right h1 h0) h⟩
theorem cutD_map (ns : List Int) (lo hi : Option Int) : cutD (ns.map PyData.int) lo hi = ((ns.drop (HT.sIx ns.length 0 lo)).take (HT.sIx ns.length ns.length hi - HT.sIx ns.length 0 lo)).map .int := by
  unfold cutD
  rw [List.length_map, List.map_take, List.map_drop]
/-- a loop whose rest is shown once -/
theorem ds_forq {wi : TI} {g : TG} {tb u : TS} (N : List Sl → Prop) (h : DS K (tFor wi g tb) ρ ⟨N, P.rt, P.bk, P.ct, P.rn⟩) (k : ∀ ρ', N ρ' → DS K u ρ' P) : DS K (tSeq (tFor wi g tb) u) ρ P :=
  ds_seq (ds_weak h k (fun _ _ z => z) (fun _ z => z) (fun _ z => z) (fun _ _ z => z))
theorem lt2_of {i : Int} {m : Nat} (h0 : 0 ≤ i) (h : i < 2 ^ m) : i.natAbs < 2 ^ m := by
  have : (i.natAbs : Int) < ((2 ^ m : Nat) : Int) := by rw [Int.natAbs_of_nonneg h0]; exact_mod_cast h
  exact_mod_cast this
theorem fmod_lt {i j : Int} (h : 0 < j) : 0 ≤ i.fmod j ∧ i.fmod j < j := ⟨Int.fmod_nonneg_of_pos _ h, Int.fmod_lt_of_pos _ h⟩
end
end DL
namespace DL
open PySem PySem.Spec PyProof.Rows L2
theorem dp_cix {K : Fg} {ρ : List Sl} {i : Nat} {p : Addr} {cs : List D} {k : Int} {d : D} (hi : ρ[i]? = some (.ce p cs)) (h : atI cs k = some d := by rfl) (hd : lf d = true := by rfl) : DP K (tOp (rIxL K) (tVar i) (tC (.int k))) ρ d :=
  dp_peek hi (dp_ixL (dp_var (by rw [List.getElem?_set_self (List.getElem?_eq_some_iff.mp hi).1])) dp_int h) hd
end DL

/-! Tuples of data and new lists, put into names at once; x in l. -/
namespace DL
open PySem PySem.Spec PyProof.Rows L2
section
variable {K : Fg} {ρ ρ' : List Sl} {σ σ' : L2.St} {G H : Hp} {ta tb te tl : TE} {P : Po} {d e : D} {rest : TS}
theorem EnvOk.ren (φ : Nat → Nat) (inj : ∀ i j, i < ρ'.length → j < ρ'.length → φ i = φ j → i = j) (h1 : ∀ j, j < ρ'.length → σ'[j]? = σ[φ j]?) (h2 : ∀ j, j < ρ'.length → ρ'[j]? = ρ[φ j]?) (hl : σ'.length = ρ'.length) (E : EnvOk K G H σ ρ) : EnvOk K G H σ' ρ' where
  sub := E.sub
  va := fun i d h => by
    have hi := (List.getElem?_eq_some_iff.mp h).1
    rw [h1 i hi]; rw [h2 i hi] at h; exact E.va _ d h
  ce := fun i a ds h => by
    have hi := (List.getElem?_eq_some_iff.mp h).1
    rw [h1 i hi]; rw [h2 i hi] at h; exact E.ce _ a ds h
  dj := fun i j a ds es h k => by
    have hi := (List.getElem?_eq_some_iff.mp h).1
    have hj := (List.getElem?_eq_some_iff.mp k).1
    rw [h2 i hi] at h; rw [h2 j hj] at k
    exact inj i j hi hj (E.dj _ _ a ds es h k)
  len := hl
theorem EnvOk.prefix {τ : L2.St} {κ : List Sl} (hl : σ.length = ρ.length) (E : EnvOk K G H (σ ++ τ) (ρ ++ κ)) : EnvOk K G H σ ρ :=
  E.ren id (fun i j _ _ h => h) (fun j hj => (List.getElem?_append_left (by omega)).symm) (fun j hj => (List.getElem?_append_left hj).symm) hl
theorem get_app {α : Type} {l k : List α} {x z : α} {j : Nat} (h : (l ++ [x])[j]? = some z) : (l[j]? = some z) ∨ (j = l.length ∧ x = z) := by
  by_cases q : j < l.length
  · rw [List.getElem?_append_left q] at h; exact .inl h
  · rw [List.getElem?_append_right (by omega)] at h
    by_cases e : j = l.length
    · subst e; rw [Nat.sub_self] at h; cases h; exact .inr ⟨rfl, rfl⟩
    · have : j - l.length = (j - l.length - 1) + 1 := by omega
      rw [this] at h; cases h
theorem EnvOk.pushV {v : V} (E : EnvOk K G H σ ρ) (dv : Dp K G v d) : EnvOk K G H (σ ++ [some v]) (ρ ++ [.va d]) where
  sub := E.sub
  va := fun i d' h => by
    rcases get_app (k := ρ) h with h | ⟨h', e⟩
    · obtain ⟨w, a, b⟩ := E.va i d' h
      exact ⟨w, by rw [List.getElem?_append_left (List.getElem?_eq_some_iff.mp a).1]; exact a, b⟩
    · cases e; subst h'
      refine ⟨v, ?_, dv⟩
      rw [← E.len, List.getElem?_append_right (Nat.le_refl _), Nat.sub_self]; rfl
  ce := fun i a ds h => by
    rcases get_app (k := ρ) h with h | ⟨h', e⟩
    · obtain ⟨w, b⟩ := E.ce i a ds h
      exact ⟨by rw [List.getElem?_append_left (List.getElem?_eq_some_iff.mp w).1]; exact w, b⟩
    · cases e
  dj := fun i j a ds es h k => by
    rcases get_app (k := ρ) h with h | ⟨h, e⟩
    · rcases get_app (k := ρ) k with k | ⟨k, e⟩
      · exact E.dj i j a ds es h k
      · cases e
    · cases e
  len := by rw [List.length_append, List.length_append, E.len]; rfl
theorem EnvOk.pushC {p : Addr} {ds : List D} {vs : List V} (E : EnvOk K G H σ ρ) (nc : ¬ Cell ρ p) (gp : G p = none) (hp : H p = some (.lst vs)) (dv : DpAll K G vs ds) : EnvOk K G H (σ ++ [some (.ref p)]) (ρ ++ [.ce p ds]) where
  sub := E.sub
  va := fun i d' h => by
    rcases get_app (k := ρ) h with h | ⟨h', e⟩
    · obtain ⟨w, a, b⟩ := E.va i d' h
      exact ⟨w, by rw [List.getElem?_append_left (List.getElem?_eq_some_iff.mp a).1]; exact a, b⟩
    · cases e
  ce := fun i a ds h => by
    rcases get_app (k := ρ) h with h | ⟨h', e⟩
    · obtain ⟨w, b⟩ := E.ce i a ds h
      exact ⟨by rw [List.getElem?_append_left (List.getElem?_eq_some_iff.mp w).1]; exact w, b⟩
    · cases e; subst h'
      refine ⟨?_, gp, vs, hp, dv⟩
      rw [← E.len, List.getElem?_append_right (Nat.le_refl _), Nat.sub_self]; rfl
  dj := fun i j a ds es h k => by
    rcases get_app (k := ρ) h with h | ⟨h, e⟩
    · rcases get_app (k := ρ) k with k | ⟨k, e⟩
      · exact E.dj i j a ds es h k
      · cases e; exact (nc ⟨i, ds, h⟩).elim
    · cases e
      rcases get_app (k := ρ) k with k | ⟨k, e⟩
      · exact (nc ⟨j, es, k⟩).elim
      · omega
  len := by rw [List.length_append, List.length_append, E.len]; rfl
/-- items: data, or lists that are new -/
inductive It2 where
  | va (d : D)
  | ne (ds : List D)
def ItSl : It2 → Sl → Prop
  | .va d, s => s = .va d
  | .ne ds, s => ∃ p, s = .ce p ds
inductive Its : List It2 → List Sl → Prop where
  | nil : Its [] []
  | cons {i s is ss} (h : ItSl i s) (t : Its is ss) : Its (i :: is) (s :: ss)
def DX (K : Fg) (te : TE) (ρ : List Sl) : It2 → Prop
  | .va d => DP K te ρ d
  | .ne ds => ∀ (σ : L2.St) (G H : Hp), EnvOk K G H σ ρ → ∀ T : VK, (∀ p vs G' H', Grow G H G' H' → H p = none → G' p = none → H' p = some (.lst vs) → DpAll K G' vs ds → T (.ref p) H') → te σ H T
theorem dx_lst {ta : TA} {ds : List D} (h : DAP K ta ρ ds) (hl : ds.length ≤ sizeLine := by first | decide | (simp; decide)) : DX K (tLst ta) ρ (.ne ds) := fun σ G H E T k =>
  h σ G H E _ fun vs G1 H1 g1 dv => ⟨by rw [dpa_len dv]; exact hl, fun p hp => by
    have gp : G1 p = none := none_back g1.s hp
    refine k p vs G1 (upd H1 p (.lst vs)) ⟨g1.g, fun b o hb => ?_, fun b o hb => ?_, g1.nw⟩ (none_back g1.h hp) gp upd_same dv
    · have := g1.h b o hb
      rw [upd_ne (ne_of_none this hp)]; exact this
    · have := g1.s b o hb
      rw [upd_ne (ne_of_none this hp)]; exact this⟩
def DAX (K : Fg) (ta : TA) (ρ : List Sl) (its : List It2) : Prop := ∀ (σ : L2.St) (G H : Hp) (us : List V) (su : List Sl), EnvOk K G H (σ ++ us.map some) (ρ ++ su) → σ.length = ρ.length → ∀ T : List V → Hp → Prop,
  (∀ vs sx G' H', Its its sx → Grow G H G' H' → EnvOk K G' H' (σ ++ (us ++ vs).map some) (ρ ++ (su ++ sx)) → vs.length = its.length → (∀ p ds, .ce p ds ∈ sx → H p = none) → T vs H') → ta σ H T
theorem dax_nil : DAX K tNil ρ [] := fun σ G H us su E hl T k => k [] [] G H .nil (.refl E.sub) (by rw [List.append_nil, List.append_nil]; exact E) rfl (fun _ _ h => nomatch h)
theorem dax_cons {it : It2} {its : List It2} {tr : TA} (h : DX K te ρ it) (hr : DAX K tr ρ its) : DAX K (tCons te tr) ρ (it :: its) := fun σ G H us su E hl T k => by
  have E0 := E.prefix hl
  cases it with
  | va d =>
    refine h σ G H E0 _ fun v G1 H1 g1 dv => ?_
    have E1 := (E.grow g1).pushV dv
    have a1 : σ ++ us.map some ++ [some v] = σ ++ (us ++ [v]).map some := by rw [List.map_append, List.append_assoc]; rfl
    rw [a1, List.append_assoc] at E1
    refine hr σ G1 H1 _ _ E1 hl _ fun vs sx G2 H2 hi g2 E2 hn fr => ?_
    rw [List.append_assoc, List.append_assoc] at E2
    refine k (v :: vs) (.va d :: sx) G2 H2 (.cons rfl hi) (g1.trans g2) E2 (by rw [List.length_cons, List.length_cons, hn]) fun p ds hm => ?_
    rcases List.mem_cons.mp hm with z | z
    · cases z
    · exact none_back g1.h (fr p ds z)
  | ne ds =>
    refine h σ G H E0 _ fun p vs G1 H1 g1 hp gp h1 dv => ?_
    have E1 := (E.grow g1).pushC (p := p) (ds := ds) (vs := vs) (by
      rintro ⟨i, es, hi⟩
      obtain ⟨_, _, ws, a3, _⟩ := E.ce i p es hi
      rw [hp] at a3; cases a3) gp h1 dv
    have a1 : σ ++ us.map some ++ [some (V.ref p)] = σ ++ (us ++ [V.ref p]).map some := by rw [List.map_append, List.append_assoc]; rfl
    rw [a1, List.append_assoc] at E1
    refine hr σ G1 H1 _ _ E1 hl _ fun vs sx G2 H2 hi g2 E2 hn fr => ?_
    rw [List.append_assoc, List.append_assoc] at E2
    refine k (.ref p :: vs) (.ce p ds :: sx) G2 H2 (.cons ⟨p, rfl⟩ hi) (g1.trans g2) E2 (by rw [List.length_cons, List.length_cons, hn]) fun q es hm => ?_
    rcases List.mem_cons.mp hm with z | z
    · cases z; exact hp
    · exact none_back g1.h (fr q es z)
def gsN : List Nat → TGs
  | [] => gNil
  | i :: is => gCons (gName i) (gsN is)
def setV (σ : L2.St) : List Nat → List V → L2.St
  | i :: is, v :: vs => setV (σ.set i (some v)) is vs
  | _, _ => σ
def setS (ρ : List Sl) : List Nat → List Sl → List Sl
  | i :: is, s :: ss => setS (ρ.set i s) is ss
  | _, _ => ρ
theorem gsN_ok {H : Hp} {Q : L2.St → Hp → Prop} : ∀ {is : List Nat} {vs : List V} {σ : L2.St}, vs.length = is.length → Q (setV σ is vs) H → gsN is vs σ H Q
  | [], [], _, _, q => ⟨rfl, q⟩
  | i :: is, v :: vs, σ, h, q => ⟨v, vs, rfl, gsN_ok (σ := σ.set i (some v)) (Nat.succ.inj h) q⟩
  | [], _ :: _, _, h, _ => nomatch h
  | _ :: _, [], _, h, _ => nomatch h
theorem move {τ : L2.St} {κ : List Sl} {v : Option V} {s : Sl} {i : Nat} (hi : i < ρ.length) (hl : σ.length = ρ.length) (E : EnvOk K G H (σ ++ v :: τ) (ρ ++ s :: κ)) : EnvOk K G H (σ.set i v ++ τ) (ρ.set i s ++ κ) := by
  have hE := E.len
  rw [List.length_append, List.length_append, List.length_cons, List.length_cons] at hE
  refine E.ren (fun j => if j = i then ρ.length else if j < ρ.length then j else j + 1) (fun a b _ _ h => ?_) (fun j hj => ?_) (fun j hj => ?_) ?_
  · split at h <;> split at h <;> (try split at h) <;> (try split at h) <;> omega
  · show _ = _[if j = i then ρ.length else if j < ρ.length then j else j + 1]?
    by_cases q : j = i
    · subst q
      rw [if_pos rfl, List.getElem?_append_left (by rw [List.length_set]; omega), List.getElem?_set_self (by omega), List.getElem?_append_right (by omega), hl, Nat.sub_self]; rfl
    · rw [if_neg q]
      by_cases q2 : j < ρ.length
      · rw [if_pos q2, List.getElem?_append_left (by rw [List.length_set]; omega), List.getElem?_append_left (by omega), List.getElem?_set_ne (fun z => q z.symm)]
      · rw [if_neg q2, List.getElem?_append_right (by rw [List.length_set]; omega), List.getElem?_append_right (by omega), List.length_set]
        have : j + 1 - σ.length = (j - σ.length) + 1 := by omega
        rw [this]; rfl
  · show _ = _[if j = i then ρ.length else if j < ρ.length then j else j + 1]?
    by_cases q : j = i
    · subst q
      rw [if_pos rfl, List.getElem?_append_left (by rw [List.length_set]; omega), List.getElem?_set_self (by omega), List.getElem?_append_right (by omega), Nat.sub_self]; rfl
    · rw [if_neg q]
      by_cases q2 : j < ρ.length
      · rw [if_pos q2, List.getElem?_append_left (by rw [List.length_set]; omega), List.getElem?_append_left (by omega), List.getElem?_set_ne (fun z => q z.symm)]
      · rw [if_neg q2, List.getElem?_append_right (by rw [List.length_set]; omega), List.getElem?_append_right (by omega), List.length_set]
        have : j + 1 - ρ.length = (j - ρ.length) + 1 := by omega
        rw [this]; rfl
  · rw [List.length_append, List.length_append, List.length_set, List.length_set]; omega
theorem setS_ok : ∀ {is : List Nat} {vs : List V} {sx : List Sl} {σ : L2.St} {ρ : List Sl}, vs.length = is.length → sx.length = is.length → (∀ i ∈ is, i < ρ.length) → σ.length = ρ.length → EnvOk K G H (σ ++ vs.map some) (ρ ++ sx) → EnvOk K G H (setV σ is vs) (setS ρ is sx)
  | [], [], [], σ, ρ, _, _, _, hl, E => E.prefix hl
  | i :: is, v :: vs, s :: sx, σ, ρ, h1, h2, h3, hl, E => by
    show EnvOk K G H (setV (σ.set i (some v)) is vs) (setS (ρ.set i s) is sx)
    exact setS_ok (Nat.succ.inj h1) (Nat.succ.inj h2) (fun j hj => by rw [List.length_set]; exact h3 j (List.mem_cons_of_mem _ hj)) (by rw [List.length_set, List.length_set]; exact hl) (move (h3 i List.mem_cons_self) hl E)
  | [], _ :: _, _, _, _, h, _, _, _, _ => nomatch h
  | [], [], _ :: _, _, _, _, h, _, _, _ => nomatch h
  | _ :: _, [], _, _, _, h, _, _, _, _ => nomatch h
  | _ :: _, _ :: _, [], _, _, _, h, _, _, _ => nomatch h
theorem setS_mem {x : Sl} : ∀ {is : List Nat} {sx : List Sl} {ρ : List Sl}, x ∈ setS ρ is sx → x ∈ ρ ∨ x ∈ sx
  | [], [], _, h => .inl h
  | [], _ :: _, _, h => .inl h
  | _ :: _, [], _, h => .inl h
  | i :: is, s :: sx, ρ, h => by
    rcases setS_mem (is := is) (sx := sx) (ρ := ρ.set i s) h with z | z
    · rcases List.mem_or_eq_of_mem_set z with y | y
      · exact .inl y
      · exact .inr (by rw [y]; exact List.mem_cons_self)
    · exact .inr (List.mem_cons_of_mem _ z)
theorem its_len {its : List It2} {sx : List Sl} (h : Its its sx) : sx.length = its.length := by
  induction h with
  | nil => rfl
  | cons h t ih => rw [List.length_cons, List.length_cons, ih]
theorem setS_step {is : List Nat} {sx : List Sl} {G' H' : Hp} (g : Grow G H G' H') (fr : ∀ p ds, .ce p ds ∈ sx → H p = none) : Step ρ G H (setS ρ is sx) G' H' :=
  ⟨g.g, fun b o h _ => g.h b o h, fun b h => none_back g.h h, fun b o h => (g.nw b o h).elim .inl (.inr ∘ .inl), fun b ⟨i, ds, h⟩ => by
    rcases setS_mem (List.mem_of_getElem? h) with z | z
    · obtain ⟨j, hj⟩ := List.mem_iff_getElem?.mp z
      exact .inl ⟨j, ds, hj⟩
    · exact .inr (fr b ds z)⟩
/-- names take a tuple's parts at once -/
theorem ds_tupX {ta : TA} (is : List Nat) {its : List It2} (ha : DAX K ta ρ its) (hn : its.length = is.length := by rfl) (hi : ∀ i ∈ is, i < ρ.length := by decide) (hz : its.length ≤ sizeLine := by decide) (q : ∀ sx, Its its sx → DS K rest (setS ρ is sx) P) :
    DS K (tSeq (tAsg (tTup ta) (gTup K is.length (gsN is))) rest) ρ P := ds_seq fun σ G H Z E z =>
  ha σ G H [] [] (by rw [List.map_nil, List.append_nil, List.append_nil]; exact E) E.len _ fun vs sx G1 H1 h1 g1 E1 hv fr => ⟨by rw [hv]; exact hz, fun p hp => by
    have g2 := Grow.new g1.s hp (.tup vs)
    refine ⟨p, vs, rfl, .of upd_same, by rw [hv]; exact hn, gsN_ok (by rw [hv]; exact hn) ?_⟩
    have E2 := E1.grow g2
    rw [List.nil_append, List.nil_append] at E2
    exact z.nx _ _ _ _ (q sx h1) (setS_step (g1.trans g2) fr) (setS_ok (by rw [hv]; exact hn) (by rw [its_len h1]; exact hn) hi E.len E2)⟩
theorem ds_par3X {i j l : Nat} {ta : TA} {its : List It2} (ha : DAX K ta ρ its) (hn : its.length = 3 := by rfl) (hi : ∀ k ∈ [i, j, l], k < ρ.length := by decide) (q : ∀ sx, Its its sx → DS K rest (setS ρ [i, j, l] sx) P) :
    DS K (tSeq (tPar3 i j l ta) rest) ρ P := ds_seq fun σ G H Z E z =>
  ha σ G H [] [] (by rw [List.map_nil, List.append_nil, List.append_nil]; exact E) E.len _ fun vs sx G1 H1 h1 g1 E1 hv fr => by
    rw [List.nil_append, List.nil_append] at E1
    rw [hn] at hv
    have E3 := setS_ok (is := [i, j, l]) hv (by rw [its_len h1]; exact hn) hi E.len E1
    obtain ⟨u, v, w, rfl⟩ : ∃ u v w, vs = [u, v, w] := by
      match vs, hv with
      | [u, v, w], _ => exact ⟨u, v, w, rfl⟩
    exact ⟨u, v, w, rfl, z.nx _ _ _ _ (q sx h1) (setS_step g1 fr) E3⟩
theorem dp_inD {ds : List D} (ha : DP K ta ρ d) (hb : DP K tb ρ (.list ds)) (h1 : SeqAt.shaped d = true) (h2 : SeqAt.shaped (.list ds) = true) : DP K (tOp (rInD K) ta tb) ρ (.bool (ds.any fun z => PyData.eqv z d)) := dp_op ha hb fun G H x y s a b T k =>
  ⟨d, ds, dp_mono s a, dp_mono s b, h1, h2, k _ _ G H rfl (.refl s) (.bl _)⟩
theorem atI_last {α : Type} {xs : List α} {x : α} : atI (xs ++ [x]) (-1) = some x := by
  unfold atI ixN
  rw [List.length_append]
  rw [if_neg (by decide), if_pos (by simp; omega)]
  have : ((-1 : Int) + ((xs.length + [x].length : Nat) : Int)).toNat = xs.length := by simp; omega
  rw [this]
  simp
theorem atI_last2 {α : Type} {xs : List α} {x y : α} : atI (xs ++ [x] ++ [y]) (-2) = some x := by
  unfold atI ixN
  rw [List.length_append, List.length_append]
  rw [if_neg (by decide), if_pos (by simp; omega)]
  have : ((-2 : Int) + ((xs.length + [x].length + [y].length : Nat) : Int)).toNat = xs.length := by simp; omega
  rw [this]
  simp
theorem dp_cixN {i : Nat} {p : Addr} {cs : List D} {k : Int} (hi : ρ[i]? = some (.ce p cs)) (h : atI cs (-k) = some d) (hd : lf d = true := by rfl) : DP K (tOp (rIxL K) (tVar i) (tUn (rU fun i => .int (-i)) (tC (.int k)))) ρ d :=
  dp_peek hi (dp_ixL (dp_var (by rw [List.getElem?_set_self (List.getElem?_eq_some_iff.mp hi).1])) (dp_neg dp_int) h) hd
theorem runits {k : Nat} {A : Around} (r : Room k A) : A.units + 65 < cLine := by have := r.un; omega
theorem de_opL {r : R2} {Q : D → List Sl → Prop} (ha : DE K ta ρ fun d ρ1 => ∃ e f, DP K tb ρ1 e ∧ R2D K r d e (fun x => x = f) ∧ Q f ρ1) : DE K (tOp r ta tb) ρ Q :=
  de_op (ha.mono fun d ρ1 ⟨e, f, h1, h2, q⟩ => DE.of h1 fun G H x y s a b T k => h2 G H x y s a b T fun v f' G' H' z g dv => k v f' G' H' (by subst z; exact q) g dv)
theorem de_opR {r : R2} {Q : D → List Sl → Prop} (ha : DP K ta ρ d) (hb : DE K tb ρ fun e ρ1 => ∃ f, R2D K r d e (fun x => x = f) ∧ Q f ρ1) : DE K (tOp r ta tb) ρ Q :=
  de_op (DE.of ha (hb.mono fun e ρ1 ⟨f, h2, q⟩ => fun G H x y s a b T k => h2 G H x y s a b T fun v f' G' H' z g dv => k v f' G' H' (by subst z; exact q) g dv))
theorem eP_cop {t l : Int} (hl : 0 < l) (h : Nat.gcd t.natAbs l.natAbs = 1) : (.tuple [.int t, .int l] : D) = eR (Rat.divInt t l) := by
  obtain ⟨a, b⟩ := red_pos (t := t) hl
  rw [h] at a b
  have e1 : t.fdiv ((1 : Nat) : Int) = t := Int.fdiv_one t
  have e2 : l.fdiv ((1 : Nat) : Int) = l := Int.fdiv_one l
  rw [e1] at a; rw [e2] at b
  show (PyData.tuple [.int t, .int l] : D) = .tuple [.int (Rat.divInt t l).num, .int ((Rat.divInt t l).den : Int)]
  rw [← a, ← b]
theorem r2_subE {i j : Int} : R2D K rSubI (.int i) (.int j) (fun x => x = .int (i - j)) := r2_I0 (fun _ => .int _) rfl
theorem r2_addE {i j : Int} : R2D K rAddI (.int i) (.int j) (fun x => x = .int (i + j)) := r2_I0 (fun _ => .int _) rfl
end
end DL
namespace DL
open PySem PySem.Spec PyProof.Rows L2
/-- the law itself: the function's place is given -/
theorem okL {Pg : Program} {w : World} {K : Fg} {mg : Str → Option Value} {base : Heap} {x : Str} {st : Stmt} {N ps : List Str} {k : Nat} {c : Call} {f : Addr} {fd : FuncData} (F : FnX K x st f fd) (S : FnScope N ps (defScope st)) (len : ∀ ds T, c ds T → ds.length = ps.length)
    (hb : Bod Pg w K mg base x st N k fun t => ∀ ds T, c ds T → DS K t (initS N ds) { nx := fun _ => T .none, rt := fun d _ => T d }) : FnOk Pg w K mg base CX0 (k + 1) f fd ps (spP K c) := by
  refine FnX.ok0 F S (fun vs H Q E h => ?_) (fun cdv A outer s H vs Q E hr h => ?_)
  · obtain ⟨G, ds, T, _, dv, hc, _⟩ := h
    rw [dpa_len dv]
    exact len ds T hc
  · obtain ⟨G, ds, T, e, dv, hc, q⟩ := h
    obtain ⟨t, ht, hd⟩ := hb f cdv A outer s H E hr
    refine ⟨t, ht, hd ds T hc _ G H _ (env_start e dv) ⟨?_, ?_, ?_, ?_, ?_⟩⟩
    · intro σ' ρ' G' H' z s' e'
      exact q .non .none G' H' z (s'.grows (fun b => nocell_init) e'.sub) .non
    · intro v d σ' ρ' G' H' z s' e' dd
      exact q v d G' H' z (s'.grows (fun b => nocell_init) e'.sub) dd
    · intro _ _ _ _ z; exact z.elim
    · intro _ _ _ _ z; exact z.elim
    · intro _ _ _ _ _ _ _ z; exact z.elim
theorem dt_yes {K : Fg} {ρ : List Sl} {Q : Bool → List Sl → Prop} (q : Q true ρ) : DT K tYes ρ Q := fun σ G H E T k => k true ρ G H q (.refl _ _ _) E
/-- the law's list, as it comes -/
theorem law_in {K : Fg} {c : Call} {H : Hp} {a : Addr} {ns : List Int} {Q : VK} {E : XK} (hS : SqL K H a (ns.map V.int)) (hc : c [.list (ns.map .int)] fun d => d = .bool true) (q : ∀ H', Q (.bl true) H') : spP K c [.ref a] H Q E :=
  ⟨H, [.list (ns.map .int)], _, .refl H, .cons (.lst hS (dpa_ints ns)) .nil, hc, fun v d G' H' t g dd => by subst t; cases dd; exact q H'⟩
end DL

/-! Texts over data. -/
namespace DL
open PySem PySem.Spec PyProof.Rows L2
section
variable {K : Fg} {ρ : List Sl} {ta tb te tl : TE} {P : Po} {i j : Int} {d : D} {x y : Str}
abbrev rAddS : R2 := fun x y H Q => ∃ i j, x = .str i ∧ y = .str j ∧ i.length + j.length ≤ sizeLine ∧ Q (.str (i ++ j)) H
theorem dp_addS (ha : DP K ta ρ (.str x)) (hb : DP K tb ρ (.str y)) (hl : x.length + y.length ≤ sizeLine) : DP K (tOp rAddS ta tb) ρ (.str (x ++ y)) := dp_op ha hb fun G H v w s a b T k => by
  cases a; cases b
  exact ⟨x, y, rfl, rfl, hl, k _ _ G H rfl (.refl s) (.str _)⟩
theorem dp_ixS {z : Nat} (ha : DP K ta ρ (.str x)) (hb : DP K tb ρ (.int i)) (hl : x.length ≤ sizeLine) (h : atI x.cps.toList i = some z) : DP K (tOp rIxS ta tb) ρ (.str ⟨#[z]⟩) := dp_op ha hb fun G H v w s a b T k => by
  cases a; cases b
  exact ⟨x, i, z, rfl, rfl, hl, h, k _ _ G H rfl (.refl s) (.str _)⟩
theorem dp_sliceS {tlo thi : TO} {lo hi : Option Int} (h : DP K tl ρ (.str x)) (hl : x.length ≤ sizeLine) (h1 : DO K tlo ρ lo) (h2 : DO K thi ρ hi) : DP K (tSl rSlS tl tlo thi) ρ (.str (cutS x lo hi)) := fun σ G H E T k =>
  h σ G H E _ fun v G1 H1 g1 dv => h1 σ G1 H1 (E.grow g1) _ fun G2 H2 g2 => h2 σ G2 H2 ((E.grow g1).grow g2) _ fun G3 H3 g3 => by
    cases dv
    exact ⟨x, rfl, hl, k (.str _) G3 H3 ((g1.trans g2).trans g3) (.str _)⟩
abbrev rStrI : List V → Hp → VK → Prop := fun xs H Q => ∃ i, xs = [.int i] ∧ i.natAbs.log2 < 1920 ∧ Q (.str (toString i)) H
theorem dp_strI (ha : DP K ta ρ (.int i)) (h : i.natAbs.log2 < 1920) : DP K (tCB rStrI (tCons ta tNil)) ρ (.str (toString i)) := dp_cb (dap_cons ha dap_nil) fun G H vs s a T k => by
  cases a with
  | cons a b => cases a; cases b; exact ⟨i, rfl, h, k _ _ G H rfl (.refl s) (.str _)⟩
abbrev rIntS : List V → Hp → VK → Prop := fun xs H Q => ∃ a n, xs = [.str a] ∧ PySem.intText? a = some n ∧ a.length ≤ 640 ∧ Q (.int n) H
theorem dp_intS (ha : DP K ta ρ (.str x)) (h : PySem.intText? x = some i) (hl : x.length ≤ 640) : DP K (tCB rIntS (tCons ta tNil)) ρ (.int i) := dp_cb (dap_cons ha dap_nil) fun G H vs s a T k => by
  cases a with
  | cons a b => cases a; cases b; exact ⟨x, i, rfl, h, hl, k _ _ G H rfl (.refl s) (.int _)⟩
theorem dpa_strs {H : Hp} : ∀ (ys : List Str), DpAll K H (ys.map V.str) (ys.map PyData.str)
  | [] => .nil
  | y :: r => .cons (.str y) (dpa_strs r)
theorem dpa_strs' {H : Hp} : ∀ {ys : List Str} {vs : List V}, DpAll K H vs (ys.map PyData.str) → vs = ys.map V.str
  | [], _, h => by cases h; rfl
  | y :: r, _, h => by
    cases h with
    | cons a q => cases a; rw [dpa_strs' q]; rfl
abbrev rSplit : V → List V → Hp → VK → Prop := fun x xs H Q => ∃ a b, x = .str a ∧ xs = [.str b] ∧ (b.length == 0) = false ∧ a.length + 2 ≤ sizeLine ∧ rNewStrs (Txt.split a b) H Q
theorem dp_split (ha : DP K ta ρ (.str x)) (hb : DP K tb ρ (.str y)) (h0 : (y.length == 0) = false) (hl : x.length + 2 ≤ sizeLine) : DP K (tM1 rSplit ta tb) ρ (.list ((Txt.split x y).map .str)) := fun σ G H E T k =>
  ha σ G H E _ fun v G1 H1 g1 dv => by
    cases dv
    refine ⟨⟨x, rfl⟩, hb σ G1 H1 (E.grow g1) _ fun u G2 H2 g2 du => ?_⟩
    cases du
    refine ⟨x, y, rfl, rfl, h0, hl, fun p hp => ?_⟩
    have gn := Grow.new g2.s hp (.lst ((Txt.split x y).map V.str))
    exact k (.ref p) _ _ ((g1.trans g2).trans gn) (.lst (.of upd_same) (dpa_strs _))
abbrev rJoin (K : Fg) : V → List V → Hp → VK → Prop := fun x xs H Q => ∃ a p, ∃ ys : List Str, x = .str a ∧ xs = [.ref p] ∧ (SqL K H p (ys.map V.str) ∨ SqT K H p (ys.map V.str)) ∧ (ys.map (·.length)).sum + ys.length * a.length ≤ 16777216 ∧ Q (.str (Txt.join a ys)) H
theorem dp_join {ys : List Str} (ha : DP K ta ρ (.str x)) (hb : DP K tb ρ (.list (ys.map .str))) (hl : (ys.map (·.length)).sum + ys.length * x.length ≤ 16777216) : DP K (tM1 (rJoin K) ta tb) ρ (.str (Txt.join x ys)) := fun σ G H E T k =>
  ha σ G H E _ fun v G1 H1 g1 dv => by
    cases dv
    refine ⟨⟨x, rfl⟩, hb σ G1 H1 (E.grow g1) _ fun u G2 H2 g2 du => ?_⟩
    cases du with
    | lst a b =>
      have e := dpa_strs' b
      subst e
      exact ⟨x, _, ys, rfl, rfl, .inl (g2.s.seq a), hl, k (.str _) G2 H2 (g1.trans g2) (.str _)⟩
def sgnD (x : Str) : List D := x.cps.toList.map fun c => .str ⟨#[c]⟩
theorem dip_str (h : DP K tl ρ (.str x)) : DIP K (iStr tl) ρ (sgnD x) := fun σ G H E R k =>
  h σ G H E _ fun v G1 H1 g1 dv => by
    cases dv
    refine ⟨x, rfl, k _ G1 H1 g1 ⟨fun i d G' H' e a b => ?_, fun G' H' a b => ?_⟩⟩
    · unfold sgnD at e
      rw [List.getElem?_map] at e
      cases q : x.cps.toList[i]? with
      | none => rw [q] at e; cases e
      | some c =>
        rw [q] at e
        cases e
        have q2 : x.cps[i]? = some c := by rw [← Array.getElem?_toList]; exact q
        refine ⟨(Array.getElem?_eq_some_iff.mp q2).1, fun z H2 w => ?_⟩
        obtain ⟨rfl, c', w1, rfl⟩ := w
        rw [q2] at w1
        cases w1
        exact ⟨G', .refl b, .str _⟩
    · show x.cps.size ≤ (sgnD x).length
      unfold sgnD
      rw [List.length_map, Array.length_toList]
      exact Nat.le_refl _
theorem dp_lcS {j : Nat} {vs : List Nat} (F : D → D) (hj : (j ∈ vs) = True) (h : DP K tl ρ (.str x)) (hz : x.cps.size < sizeLine) (he : ∀ d ∈ sgnD x, DP K te ((wipeS ρ vs).set j (.va d)) (F d)) : DP K (tLc (iStr tl) (gName j) tYes te vs) ρ (.list ((sgnD x).map F)) :=
  dp_lc F (of_eq_true hj) (dip_str h) (by unfold sgnD; rw [List.length_map, Array.length_toList]; exact hz) he
abbrev rInSg : R2 := fun x y H Q => ∃ (c : Nat) (z : Str), x = .str ⟨#[c]⟩ ∧ y = .str z ∧ Q (.bl (decide (c ∈ z.cps.toList))) H
theorem dp_inS {c : Nat} (ha : DP K ta ρ (.str ⟨#[c]⟩)) (hb : DP K tb ρ (.str y)) : DP K (tOp rInSg ta tb) ρ (.bool (decide (c ∈ y.cps.toList))) := dp_op ha hb fun G H v w s a b T k => by
  cases a; cases b
  exact ⟨c, y, rfl, rfl, k _ _ G H rfl (.refl s) (.bl _)⟩
end
end DL

/-! x[::-1] of tuples and lists, ranges downwards, lists put together, tuples of lists, texts once more. -/
namespace HT
open PySem PySem.Spec PyProof.Rows
section
variable {prog : Program} {w : World} {A : Around} {E : Value → Shared → Prop} {s : Shared}
theorem sliceApplied_rev {sl : Addr} {vl vu vk : Value} {n : Nat} {Q : Int × Int × Nat → Shared → Prop} (hs : s.heap.IsSliceOf sl vl vu vk) (pl : IsPart vl none) (pu : IsPart vu none) (pk : IsPart vk (some (-1)))
    (h : Q ((n : Int) - 1, -1, n) s) : wpAny (model prog w) A (Builtin.Slice.sliceApplied (.ref sl) (pure (n : Int))) Q E s := by
  obtain ⟨os, hos, hcs, hds⟩ := id hs
  unfold Builtin.Slice.sliceApplied Builtin.Slice.sliceFields
  refine wpAny_bind (wpAny_bind (wpAny_field hos hds (x := vl) rfl (wpAny_bind (wpAny_field hos hds (x := vu) rfl (wpAny_bind (wpAny_field hos hds (x := vk) rfl (wpAny_pure ?_)))))))
  refine wpAny_bind (slicePart_ pk ?_)
  show wpAny _ _ (if ((-1 : Int) == 0) = true then _ else _) _ _ s
  rw [if_neg (by decide)]
  refine wpAny_bind (slicePart_ pl (wpAny_bind (slicePart_ pu (wpAny_bind (wpAny_pure ?_)))))
  have e : Builtin.Slice.slicePlaces ((n : Int) - 1) (-1) (-1) = n := by
    unfold Builtin.Slice.slicePlaces
    rw [if_neg (by decide), show (-(-1 : Int)) = 1 from rfl, Int.ediv_one]
    split <;> omega
  show wpAny _ _ (pure ((n : Int) - 1, (-1 : Int), Builtin.Slice.slicePlaces ((n : Int) - 1) (-1) (-1))) _ _ s
  rw [e]
  exact wpAny_pure h
theorem fm_congr {α β : Type} {f g : α → Option β} : ∀ {l : List α}, (∀ a ∈ l, f a = g a) → l.filterMap f = l.filterMap g
  | [], _ => rfl
  | a :: l, h => by
    rw [List.filterMap_cons, List.filterMap_cons, h a (List.mem_cons_self ..), fm_congr fun b hb => h b (List.mem_cons_of_mem _ hb)]
theorem pick_rev (xs : Array Value) : ((List.range xs.size).filterMap fun (m : Nat) => xs[(((xs.size : Int) - 1) + (m : Int) * (-1)).toNat]?) = xs.toList.reverse := by
  have e : ((List.range xs.size).filterMap fun (m : Nat) => xs[(((xs.size : Int) - 1) + (m : Int) * (-1)).toNat]?) = ((List.range xs.size).map (fun k => xs.size - 1 - k)).filterMap (xs[·]?) := by
    rw [List.filterMap_map]
    apply fm_congr
    intro m hm
    have := List.mem_range.mp hm
    show xs[(((xs.size : Int) - 1) + (m : Int) * (-1)).toNat]? = xs[xs.size - 1 - m]?
    congr 1
    omega
  rw [e, PySem.W.krv_range, List.filterMap_reverse, PySem.W.krv_all]
theorem getItem_tuple_rev {t sl : Addr} {items : Array Value} {vl vu vk : Value} {Q : Value → Shared → Prop} (ht : IsTup s.heap t items) (hs : s.heap.IsSliceOf sl vl vu vk) (pl : IsPart vl none) (pu : IsPart vu none) (pk : IsPart vk (some (-1)))
    (h : Q (.ref s.heap.objs.size) { s with heap := s.heap.push { cls := .type "tuple", data := .seq items.toList.reverse.toArray } })
    (hsz : items.size ≤ sizeLine) : wpAny (model prog w) A (getItem (.ref t) (.ref sl)) Q E s := by
  have htake : sizeOk (.seq items.toList.reverse.toArray) := by
    show items.toList.reverse.toArray.size ≤ sizeLine
    rw [List.size_toArray, List.length_reverse, Array.length_toList]
    exact hsz
  obtain ⟨os, hos, hcs, hds⟩ := id hs
  have hTs : s.TypeIs (.ref sl) "slice" := ⟨os, hos, hcs⟩
  unfold getItem
  try with_reducible refine wpAny_holding ?_
  first | refine wpAny_bind (wpAny_pure ?_) | skip
  refine wpAny_bind (wpAny_sequenceKey ht.typeIs (by decide) ?_)
  refine wpAny_bind (wpAny_callSpecial?_slot (name := Str.ofString "__getitem__") ht.typeIs PyProof.Rows.slot_tuple_getitem
    (wpAny_call_entry PyProof.Rows.slot_tuple_getitem ht.typeIs entry_tuple_getitem ?_ (args_tuple_getitem _ _)))
  show wpAny _ _ (Builtin.Tuple.tupleItemsOf (.ref t) >>= _) _ _ s
  refine wpAny_bind (tupleItemsOf_ ht ?_)
  refine wpAny_bind (wpAny_typeOf hTs ?_)
  rw [if_pos (by decide)]
  refine wpAny_bind (sliceApplied_rev hs pl pu pk ?_)
  have hno : ¬ ((((items.size : Int) - 1) == 0 && (-1 : Int) == 1 && items.size == items.size) = true) := by
    rw [show ((-1 : Int) == 1) = false from rfl, Bool.and_false, Bool.false_and]
    exact Bool.false_ne_true
  show wpAny _ _ (if (((items.size : Int) - 1) == 0 && (-1 : Int) == 1 && items.size == items.size) = true then _ else _) _ _ s
  rw [if_neg hno, pick_rev]
  first
    | exact wpAny_bind (m := Builtin.Tuple.tupleExact _) (wpAny_newObj_type (wpAny_pure ⟨_, rfl, wpAny_pure h⟩) htake)
    | exact wpAny_bind (m := Builtin.Tuple.tupleExact _) (wpAny_newObj_type (wpAny_bind (wpAny_pure (wpAny_pure ⟨_, rfl, wpAny_pure h⟩))) htake)
    | exact wpAny_bind (wpAny_bind (m := Builtin.Tuple.tupleExact _) (wpAny_newObj_type (wpAny_pure (wpAny_pure ⟨_, rfl, wpAny_pure h⟩)) htake))
    | exact wpAny_bind (wpAny_bind (m := Builtin.Tuple.tupleExact _) (wpAny_newObj_type (wpAny_pure ⟨_, rfl, wpAny_pure h⟩) htake))
end
end HT
namespace DL
open PySem PySem.Spec PyProof.Rows L2
def tRevT (K : Fg) (te : TE) : TE := fun σ H Q => te σ H fun x H1 => ∃ a xs, x = .ref a ∧ SqT K H1 a xs ∧ ∀ p, H1 p = none → Q (.ref p) (upd H1 p (.tup xs.reverse))
theorem pe_revT {X : Cx} {e : Expr} {te : TE} {k : Nat} {p1 p2 p3 pos : Pos} (he : PE X e te) : PE X (.Subscript e (.Slice none none (some (.UnaryOp .USub (.Constant (.int 1) k p1) p2)) p3) pos) (tRevT X.K te) := by
  refine ⟨fun pins s σ H Q I h => ?_⟩
  refine Subscript_ (thn (he.run pins s σ H _ I h) fun v s1 ⟨x, H1, I1, r1, q1⟩ => ?_)
  obtain ⟨a, xs, ex, hx, q⟩ := q1
  subst ex
  cases r1
  have hst : PO X (some (.UnaryOp .USub (.Constant (.int 1) k p1) p2)) (tPart (tUn (rU fun i => .int (-i)) (tC (.int 1)))) := po_some (pe_un un_neg pe_int)
  refine wpAny_Slice (thn (po_none.run pins s1 σ H1 (fun o H2 => o = none ∧ H2 = H1) I1 ⟨rfl, rfl⟩) fun vl s2 ⟨l, H2, I2, pl, el, e2⟩ => ?_)
  subst el e2
  refine thn (po_none.run pins s2 σ H2 (fun o H3 => o = none ∧ H3 = H2) I2 ⟨rfl, rfl⟩) fun vu s3 ⟨u, H3, I3, pu, eu, e3⟩ => ?_
  subst eu e3
  refine thn (hst.run pins s3 σ H3 (fun o H4 => o = some (-1) ∧ H4 = H3) I3 ⟨1, rfl, -1, rfl, rfl, rfl⟩) fun vs s4 ⟨o, H4, I4, ps, eo, e4⟩ => ?_
  subst eo e4
  have I5 : Inv X pins σ H4 { s4 with heap := s4.heap.push { cls := .type "slice", data := .fields #[vl, vu, vs] } } := I4.kept (t' := s4.toks) fun b ob q => Heap.get?_push_of_some _ q
  obtain ⟨its, r, ht, hz⟩ := I5.tuple hx
  have hlen := r.length
  show wpAny (model X.prog X.w) X.A (subscriptTail e (.Slice none none (some (.UnaryOp .USub (.Constant (.int 1) k p1) p2)) p3) (.ref a) (.ref s4.heap.objs.size)) (EP X pins σ Q) X.xe { s4 with heap := s4.heap.push { cls := .type "slice", data := .fields #[vl, vu, vs] } }
  refine tail_any (ops := [.ref a, .ref s4.heap.objs.size]) ht.typeIs (PyProof.Rows.slot_tuple_getitem.lookup) ?_ (by with_unfolding_all rfl)
  refine HT.getItem_tuple_rev ht (Heap.IsSliceOf.new _ vl vu vs) pl pu ps ?_ (by rw [List.size_toArray]; omega)
  refine ⟨.ref _, _, I5.laid (t' := s4.toks) (o := .tup xs.reverse) (fun b ob q => Heap.get?_push_of_some _ q) (Nat.le_refl _) ?_, rfl, q _ (I5.hok.fresh (Nat.le_refl _))⟩
  exact ⟨by rw [List.length_reverse]; exact hz, _, r.reverse, IsTup.new _ _⟩
section
variable {K : Fg} {ρ : List Sl} {ta tb te tl : TE} {P : Po} {i j : Int} {d e : D} {x y : Str}
theorem dpa_rev {H : Hp} : ∀ {ds : List D} {vs : List V}, DpAll K H vs ds → DpAll K H vs.reverse ds.reverse
  | [], _, h => by cases h; exact .nil
  | d :: ds, _, h => by
    cases h with
    | cons a b => rw [List.reverse_cons, List.reverse_cons]; exact dpa_app (dpa_rev b) (.cons a .nil)
theorem dp_revT {ds : List D} (h : DP K tl ρ (.tuple ds)) : DP K (tRevT K tl) ρ (.tuple ds.reverse) := fun σ G H E T k =>
  h σ G H E _ fun v G1 H1 g1 dv => by
    cases dv with
    | tup a b =>
      rename_i xs
      refine ⟨_, xs, rfl, sqt_mono g1.s a, fun p hp => ?_⟩
      have gn := Grow.new g1.s hp (.tup xs.reverse)
      exact k (.ref p) _ _ (g1.trans gn) (.tup (.of upd_same) (dpa_mono gn.g (dpa_rev b)))
theorem dp_revL {ds : List D} (h : DP K tl ρ (.list ds)) : DP K (tRevL K tl) ρ (.list ds.reverse) := fun σ G H E T k =>
  h σ G H E _ fun v G1 H1 g1 dv => by
    cases dv with
    | lst a b =>
      rename_i xs
      refine ⟨_, xs, rfl, g1.s.seq a, fun p hp => ?_⟩
      have gn := Grow.new g1.s hp (.lst xs.reverse)
      exact k (.ref p) _ _ (g1.trans gn) (.lst (.of upd_same) (dpa_mono gn.g (dpa_rev b)))
/-- for i in range(n, m, -1) -/
theorem di_rng3 {ta : TA} {Q : List D → List Sl → Prop} (h : DA K ta ρ fun ds ρ1 => ∃ m n : Int, ds = [.int m, .int n, .int (-1)] ∧ (-(2 ^ 62) ≤ m ∧ m < 2 ^ 62 ∧ -(2 ^ 62) ≤ n ∧ n < 2 ^ 62) ∧ Q ((List.range (m - n).toNat).map fun i : Nat => PyData.int (m - (i : Int))) ρ1) : DI K (iRng3 ta) ρ Q := fun σ G H E R k =>
  h σ G H E _ fun vs ds ρ1 G1 H1 ⟨m, n, e, ⟨a1, a2, a3, a4⟩, q⟩ s E1 dv => by
    subst e
    cases dv with
    | cons x y =>
      cases y with
      | cons y z =>
        cases z with
        | cons z z' =>
        cases x; cases y; cases z; cases z'
        refine ⟨m, n, -1, (m - n).toNat, rfl, RgC.neg a1 a2 a3 a4, k _ _ ρ1 G1 H1 q s E1 ⟨fun i d G' H' e a b => ?_, fun G' H' a b => ?_⟩⟩
        · have hi : i < (m - n).toNat := by
            have := (List.getElem?_eq_some_iff.mp e).1
            rw [List.length_map, List.length_range] at this
            exact this
          refine ⟨hi, fun x H2 y => ?_⟩
          obtain ⟨rfl, rfl⟩ := y
          refine ⟨G', .refl b, ?_⟩
          rw [List.getElem?_map, List.getElem?_range hi] at e
          cases e
          rw [show m + (i : Int) * -1 = m - (i : Int) by omega]
          exact .int _
        · show (m - n).toNat ≤ _
          rw [List.length_map, List.length_range]
          exact Nat.le_refl _
/-- tuple(l) -/
abbrev rTupOf (K : Fg) : List V → Hp → VK → Prop := fun xs H Q => ∃ p ys, xs = [.ref p] ∧ ((SqL K H p ys ∧ ∀ l, H l = none → Q (.ref l) (upd H l (.tup ys))) ∨ (SqT K H p ys ∧ Q (.ref p) H))
theorem rc_tupOf {ds : List D} {Q : D → Prop} (q : Q (.tuple ds)) : RCD K (rTupOf K) [.list ds] Q := fun G H vs s a T k => by
  cases a with
  | cons a b =>
    cases b
    cases a with
    | lst a b =>
      rename_i xs
      refine ⟨_, xs, rfl, .inl ⟨s.seq a, fun p hp => ?_⟩⟩
      have gn := Grow.new s hp (.tup xs)
      exact k (.ref p) _ _ _ q gn (.tup (.of upd_same) (dpa_mono gn.g b))
theorem dp_tupOf {ds : List D} (ha : DP K ta ρ (.list ds)) : DP K (tCB (rTupOf K) (tCons ta tNil)) ρ (.tuple ds) := dp_cb (dap_cons ha dap_nil) (rc_tupOf rfl)
/-- len of a text -/
abbrev rLenT : List V → Hp → VK → Prop := fun xs H Q => ∃ z, xs = [.str z] ∧ z.length ≤ sizeLine ∧ Q (.int z.length) H
theorem dp_lenS (ha : DP K ta ρ (.str x)) (hl : x.length ≤ sizeLine) : DP K (tCB rLenT (tCons ta tNil)) ρ (.int (x.length : Int)) := dp_cb (dap_cons ha dap_nil) fun G H vs s a T k => by
  cases a with
  | cons a b => cases a; cases b; exact ⟨x, rfl, hl, k _ _ G H rfl (.refl s) (.int _)⟩
theorem dec_str {x y : Str} : decide (V.str x = V.str y) = decide (x = y) := decide_eq_decide.mpr ⟨V.str.inj, fun h => by rw [h]⟩
theorem r2_eqS {Q : D → Prop} (q : Q (.bool (decide (x = y)))) : R2D K rEq (.str x) (.str y) Q := fun G H v w s a b T k => by
  cases a; cases b
  refine ⟨rfl, ?_⟩
  rw [dec_str]
  exact k _ _ G H q (.refl s) (.bl _)
theorem r2_neS {Q : D → Prop} (q : Q (.bool (!decide (x = y)))) : R2D K rNe (.str x) (.str y) Q := fun G H v w s a b T k => by
  cases a; cases b
  refine ⟨rfl, ?_⟩
  rw [dec_str]
  exact k _ _ G H q (.refl s) (.bl _)
theorem dp_eqS (ha : DP K ta ρ (.str x)) (hb : DP K tb ρ (.str y)) : DP K (tOp rEq ta tb) ρ (.bool (decide (x = y))) := dp_op ha hb (r2_eqS rfl)
theorem dp_neS (ha : DP K ta ρ (.str x)) (hb : DP K tb ρ (.str y)) : DP K (tOp rNe ta tb) ρ (.bool (!decide (x = y))) := dp_op ha hb (r2_neS rfl)
theorem dpa_strsV {H : Hp} : ∀ {ys : List Str} {vs : List V}, DpAll K H vs (ys.map PyData.str) → vs = ys.map V.str := fun h => dpa_strs' h
/-- a text in a tuple of texts -/
theorem dp_inTS {ys : List Str} (ha : DP K ta ρ (.str x)) (hb : DP K tb ρ (.tuple (ys.map .str))) : DP K (tOp (rIn K false) ta tb) ρ (.bool (decide (x ∈ ys))) := dp_op ha hb fun G H v w s a b T k => by
  cases a
  cases b with
  | tup a b =>
    have e := dpa_strs' b
    subst e
    refine ⟨_, _, rfl, .inr (sqt_mono s a), rfl, ?_, k _ _ G H ?_ (.refl s) (.bl _)⟩
    · rw [List.all_map]; exact List.all_eq_true.mpr fun _ _ => rfl
    · rw [if_neg (by decide)]
      refine congrArg PyData.bool ?_
      unfold inV
      rw [List.any_map]
      have : ((fun z => eqV z (V.str x)) ∘ V.str) = fun z => decide (z = x) := by
        funext z
        show (z == x) = _
        by_cases h : z = x
        · subst h; simp
        · rw [decide_eq_false h]; simpa using h
      rw [this]
      by_cases h : x ∈ ys
      · rw [decide_eq_true h, List.any_eq_true]; exact ⟨x, h, by simp⟩
      · rw [decide_eq_false h, List.any_eq_false]; intro z hz w; exact h (by rw [← of_decide_eq_true w]; exact hz)
theorem de_join {Q : D → List Sl → Prop} (ha : DP K ta ρ (.str x)) (hb : DE K tb ρ fun d ρ1 => ∃ ys : List Str, d = .list (ys.map .str) ∧ (ys.map (·.length)).sum + ys.length * x.length ≤ 16777216 ∧ Q (.str (Txt.join x ys)) ρ1) : DE K (tM1 (rJoin K) ta tb) ρ Q := fun σ G H E T k =>
  ha σ G H E _ fun v G1 H1 g1 dv => by
    cases dv
    refine ⟨⟨x, rfl⟩, hb σ G1 H1 (E.grow g1) _ fun u d ρ1 G2 H2 ⟨ys, e, hl, q⟩ s2 E2 du => ?_⟩
    subst e
    cases du with
    | lst a b =>
      have e := dpa_strs' b
      subst e
      exact ⟨x, _, ys, rfl, rfl, .inl (E2.sub.seq a), hl, k (.str _) _ _ G2 H2 q (g1.step.trans s2) E2 (.str _)⟩
end
end DL

/-! One own dict in a slot that the layer does not look at: made, filled in a loop, read in a comprehension. -/
namespace DL
open PySem PySem.Spec PyProof.Rows L2
section
variable {K : Fg} {ρ ρ0 ρ' : List Sl} {G H G0 H0 G' H' : Hp} {σ : L2.St} {a p : Addr} {o : HO}
theorem Step.alloc (hp : H p = none) (o : HO) : Step ρ G H ρ G (upd H p o) :=
  ⟨.refl G, fun b u hb _ => by rw [upd_ne (ne_of_none hb hp)]; exact hb, fun b hb => by
    by_cases z : b = p
    · subst z; exact hp
    · rw [upd_ne z] at hb; exact hb, fun _ _ h => .inl h, fun _ h => .inl h⟩
theorem EnvOk.alloc (E : EnvOk K G H σ ρ) (hp : H p = none) (o : HO) : EnvOk K G (upd H p o) σ ρ :=
  ⟨fun b u hb => by rw [upd_ne (ne_of_none (E.sub b u hb) hp)]; exact E.sub b u hb, E.va, fun i b es h => by
    obtain ⟨a1, a2, vs, a3, a4⟩ := E.ce i b es h
    exact ⟨a1, a2, vs, by rw [upd_ne (ne_of_none a3 hp)]; exact a3, a4⟩, E.dj, E.len⟩
theorem EnvOk.hide (E : EnvOk K G H σ ρ) {i : Nat} (h : ρ[i]? = some .no) (v : Option V) : EnvOk K G H (σ.set i v) ρ := by
  have ne : ∀ {j : Nat} {s : Sl}, ρ[j]? = some s → s ≠ .no → (σ.set i v)[j]? = σ[j]? := fun {j s} hj hs => by
    rw [List.getElem?_set_ne]
    intro z
    subst z
    rw [h] at hj
    exact hs (Option.some.inj hj).symm
  exact ⟨E.sub, fun j d hj => by rw [ne hj (by simp)]; exact E.va j d hj, fun j b es hj => by rw [ne hj (by simp)]; exact E.ce j b es hj, E.dj, by rw [List.length_set]; exact E.len⟩
theorem Step.poke (s : Step ρ0 G0 H0 ρ G H) (ha : H0 a = none) (o : HO) : Step ρ0 G0 H0 ρ G (upd H a o) :=
  ⟨s.g, fun b u hb hc => by rw [upd_ne (ne_of_none hb ha)]; exact s.fr b u hb hc, fun b hb => by
    by_cases z : b = a
    · subst z; exact ha
    · rw [upd_ne z] at hb; exact s.dom b hb, s.nw, s.cl⟩
theorem EnvOk.poke (E : EnvOk K G H σ ρ) (ga : G a = none) (nc : ¬ Cell ρ a) (o : HO) : EnvOk K G (upd H a o) σ ρ :=
  ⟨fun b u hb => by rw [upd_ne (ne_of_none hb ga)]; exact E.sub b u hb, E.va, fun i b es h => by
    obtain ⟨a1, a2, vs, a3, a4⟩ := E.ce i b es h
    exact ⟨a1, a2, vs, by rw [upd_ne (fun z => nc ⟨i, es, by rw [← z]; exact h⟩)]; exact a3, a4⟩, E.dj, E.len⟩
theorem Step.keep (s : Step ρ G H ρ' G' H') (ha : H a = some o) (ga : G a = none) (nc : ¬ Cell ρ a) : H' a = some o ∧ G' a = none ∧ ¬ Cell ρ' a := by
  refine ⟨s.fr a o ha nc, ?_, fun z => ?_⟩
  · cases q : G' a with
    | none => rfl
    | some u =>
      rcases s.nw a u q with z | z | z
      · rw [ga] at z; cases z
      · rw [ha] at z; cases z
      · exact absurd z nc
  · rcases s.cl a z with z | z
    · exact nc z
    · rw [ha] at z; cases z
theorem Grow.keepN (g : Grow G H G' H') (ha : H a = some o) (ga : G a = none) : G' a = none := by
  cases q : G' a with
  | none => rfl
  | some u =>
    rcases g.nw a u q with z | z
    · rw [ga] at z; cases z
    · rw [ha] at z; cases z
/-- from here on the object is known -/
theorem Step.know (s : Step ρ0 G0 H0 ρ G H) (e0 : Same G0 H0) (ha : H0 a = none) (ga : G a = none) (o : HO) : Step ρ0 G0 H0 ρ (upd G a o) H :=
  ⟨fun b u hb => by rw [upd_ne (ne_of_none (e0 b u hb) ha)]; exact s.g b u hb, s.fr, s.dom, fun b u hb => by
    by_cases z : b = a
    · subst z; exact .inr (.inl ha)
    · rw [upd_ne z] at hb; exact s.nw b u hb, s.cl⟩
theorem EnvOk.know (E : EnvOk K G H σ ρ) (ha : H a = some o) (ga : G a = none) (nc : ¬ Cell ρ a) : EnvOk K (upd G a o) H σ ρ := by
  have sm : Same G (upd G a o) := fun b u hb => by rw [upd_ne (ne_of_none hb ga)]; exact hb
  refine ⟨fun b u hb => ?_, fun i d h => let ⟨v, x, y⟩ := E.va i d h; ⟨v, x, dp_mono sm y⟩, fun i b es h => ?_, E.dj, E.len⟩
  · by_cases z : b = a
    · subst z; rw [upd_same] at hb; rw [← hb]; exact ha
    · rw [upd_ne z] at hb; exact E.sub b u hb
  · obtain ⟨a1, a2, vs, a3, a4⟩ := E.ce i b es h
    exact ⟨a1, by rw [upd_ne (fun z => nc ⟨i, es, by rw [← z]; exact h⟩)]; exact a2, vs, a3, dpa_mono sm a4⟩
theorem nocell {ρ : List Sl} (h : ∀ s ∈ ρ, s = .no ∨ ∃ d, s = .va d) (b : Addr) : ¬ Cell ρ b := by
  rintro ⟨i, ds, hi⟩
  rcases h _ (List.mem_of_getElem? hi) with z | ⟨d, z⟩ <;> cases z
/-! ### a loop by hand -/
theorem raw_for {wi : TI} {g : TG} {tb : TS} {Z : Ends} {Q : List D → List Sl → Prop} (E : EnvOk K G H σ ρ) (hw : DI K wi ρ Q)
    (k : ∀ ds ρ1 G1 H1, Q ds ρ1 → Step ρ G H ρ1 G1 H1 → EnvOk K G1 H1 σ ρ1 → ∃ I : Nat → L2.St → Hp → Hp → Prop, I 0 σ G1 H1 ∧ (∀ i σ G H, I i σ G H → Same G1 G ∧ Same G H) ∧
      (∀ i d σ G H, ds[i]? = some d → I i σ G H → ∀ x G3 H3, Grow G H G3 H3 → Dp K G3 x d → g x σ H3 fun σ4 H4 => tb { Z with nx := fun σ' H' => ∃ G', I (i + 1) σ' G' H', ct := fun σ' H' => ∃ G', I (i + 1) σ' G' H', bk := Z.nx } σ4 H4) ∧
      ∀ σ G H, I ds.length σ G H → Z.nx σ H) : tFor wi g tb Z σ H :=
  hw σ G H E _ fun J ds ρ1 G1 H1 q s1 E1 it => by
    obtain ⟨I, i0, iS, it1, iE⟩ := k ds ρ1 G1 H1 q s1 E1
    refine ⟨fun i m σ2 H2 => m = ds.length - i ∧ i ≤ ds.length ∧ ∃ G2, I i σ2 G2 H2, ⟨ds.length, by simp, Nat.zero_le _, G1, i0⟩, ?_⟩
    rintro i m σ2 H2 ⟨rfl, hi, G2, a⟩
    obtain ⟨c, d⟩ := iS i σ2 G2 H2 a
    by_cases hlt : i < ds.length
    · obtain ⟨e1, e2⟩ := it.go i ds[i] G2 H2 (List.getElem?_eq_getElem hlt) c d
      refine .inr ⟨e1, fun σ' H' => ∃ G', I (i + 1) σ' G' H', fun σ' H' x => ⟨ds.length - (i + 1), by omega, rfl, hlt, x⟩, fun x H3 y => ?_⟩
      obtain ⟨G3, gr, dx⟩ := e2 x H3 y
      exact it1 i ds[i] σ2 G2 H2 (List.getElem?_eq_getElem hlt) a x G3 H3 gr dx
    · have e : i = ds.length := by omega
      subst e
      exact .inl ⟨it.stop G2 H2 c d, iE σ2 G2 H2 a⟩
end
/-! ### with a known dict -/
section
variable {K : Fg} {ρ : List Sl} {ta tb te : TE} {i0 : Nat} {a : Addr} {Gb : Hp} {kvs : List (Key × V)} {d e : D}
def DPx (K : Fg) (i0 : Nat) (a : Addr) (Gb : Hp) (te : TE) (ρ : List Sl) (d : D) : Prop :=
  ∀ (σ : L2.St) (G H : Hp), EnvOk K G H σ ρ → σ[i0]? = some (some (.ref a)) → Same Gb G → ∀ T : VK, (∀ v G' H', Grow G H G' H' → Dp K G' v d → T v H') → te σ H T
def DIPx (K : Fg) (i0 : Nat) (a : Addr) (Gb : Hp) (wi : TI) (ρ : List Sl) (ds : List D) : Prop :=
  ∀ (σ : L2.St) (G H : Hp), EnvOk K G H σ ρ → σ[i0]? = some (some (.ref a)) → Same Gb G → ∀ R : It → Hp → Prop, (∀ J G' H', Grow G H G' H' → ItOk K G' J ds → R J H') → wi σ H R
theorem dpx_of (h : DP K te ρ d) : DPx K i0 a Gb te ρ d := fun σ G H E _ _ => h σ G H E
theorem wipe_get {σ : L2.St} {i : Nat} : ∀ {vs : List Nat}, i ∉ vs → (wipe σ vs)[i]? = σ[i]?
  | [], _ => rfl
  | v :: vs, h => by
    show ((wipe σ vs).set v none)[i]? = _
    rw [List.getElem?_set_ne (fun z => h (by rw [z]; exact List.mem_cons_self ..))]
    exact wipe_get fun z => h (List.mem_cons_of_mem _ z)
theorem dpx_lc {wi : TI} {ds : List D} {j : Nat} {vs : List Nat} (F : D → D) (hj : j ∈ vs) (hi0 : i0 ∉ vs) (h : DIPx K i0 a Gb wi ρ ds) (hz : ds.length < sizeLine) (he : ∀ d ∈ ds, DPx K i0 a Gb te ((wipeS ρ vs).set j (.va d)) (F d)) : DPx K i0 a Gb (tLc wi (gName j) tYes te vs) ρ (.list (ds.map F)) := fun σ G H E hσ hG T k =>
  h σ G H E hσ hG _ fun J G1 H1 g1 it => by
    intro L hL
    have E1 := E.grow g1
    have gL : G1 L = none := none_back g1.s hL
    refine ⟨fun i m H2 => m = ds.length - i ∧ i ≤ ds.length ∧ ∃ G2 us, Grow G1 H1 G2 (cut H2 L) ∧ G2 L = none ∧ H2 L = some (.lst us) ∧ DpAll K G2 us ((ds.take i).map F), ⟨ds.length, by simp, Nat.zero_le _, G1, [], ?_, gL, upd_same, .nil⟩, ?_⟩
    · have e : cut (upd H1 L (.lst [])) L = H1 := by
        funext b
        unfold cut
        by_cases z : b = L
        · subst z; rw [if_pos rfl, hL]
        · rw [if_neg z, upd_ne z]
      rw [e]
      exact .refl g1.s
    · rintro i m H2 ⟨rfl, hi, G2, us, gr, l1, l2, du⟩
      have cutSame : Same (cut H2 L) H2 := fun b o hb => by
        unfold cut at hb
        split at hb
        · cases hb
        · exact hb
      by_cases hlt : i < ds.length
      · have sub2 : Same G2 H2 := gr.s.trans cutSame
        obtain ⟨e1, e2⟩ := it.go i ds[i] G2 H2 (List.getElem?_eq_getElem hlt) gr.g sub2
        refine .inr ⟨e1, fun H' => ∃ G' us', Grow G1 H1 G' (cut H' L) ∧ G' L = none ∧ H' L = some (.lst us') ∧ DpAll K G' us' ((ds.take (i + 1)).map F), fun H' x => ⟨ds.length - (i + 1), by omega, rfl, hlt, x⟩, fun x H3 y => ?_⟩
        obtain ⟨G3, g3, dx⟩ := e2 x H3 y
        refine ⟨by rw [wipe_set hj, wipe_idem], ?_⟩
        unfold tYes
        dsimp only
        rw [if_pos rfl]
        have E2 : EnvOk K G2 H2 σ ρ := by
          refine ⟨sub2, fun i d q => ?_, fun i a es q => ?_, E1.dj, E1.len⟩
          · obtain ⟨v, a, b⟩ := E1.va i d q
            exact ⟨v, a, dp_mono gr.g b⟩
          · obtain ⟨a1, a2, ws, a3, a4⟩ := E1.ce i a es q
            refine ⟨a1, ?_, ws, cutSame _ _ (gr.h _ _ a3), dpa_mono gr.g a4⟩
            cases qq : G2 a with
            | none => rfl
            | some o =>
              rcases gr.nw a o qq with z | z
              · rw [a2] at z; cases z
              · rw [a3] at z; cases z
        have E3 := ((E2.grow g3).wiped (σ2 := wipe σ vs) (fun i hi => wipe_out hi) (wipe_length σ vs)).set j dx
        have hσ3 : ((wipe σ vs).set j (some x))[i0]? = some (some (.ref a)) := by
          rw [List.getElem?_set_ne (fun z => hi0 (by rw [← z]; exact hj)), wipe_get hi0]; exact hσ
        refine he ds[i] (List.getElem_mem hlt) _ G3 H3 E3 hσ3 (((hG.trans g1.g).trans gr.g).trans g3.g) _ fun v G4 H4 g4 dv => ?_
        have g34 := g3.trans g4
        have l4 : H4 L = some (.lst us) := g34.h _ _ l2
        have gl4 : G4 L = none := by
          cases qq : G4 L with
          | none => rfl
          | some o =>
            rcases g34.nw L o qq with z | z
            · rw [l1] at z; cases z
            · rw [l2] at z; cases z
        have dl : us.length < sizeLine := by
          rw [dpa_len du, List.length_map, List.length_take]
          omega
        refine ⟨us, l4, dl, G4, us ++ [v], ?_, gl4, upd_same, ?_⟩
        · refine ⟨gr.g.trans g34.g, fun b o hb => ?_, fun b o hb => ?_, fun b o hb => ?_⟩
          · have ne := ne_of_none hb hL
            unfold cut
            rw [if_neg ne, upd_ne ne]
            exact g34.h _ _ (cutSame _ _ (gr.h _ _ hb))
          · have ne := ne_of_none hb gl4
            unfold cut
            rw [if_neg ne, upd_ne ne]
            exact g34.s _ _ hb
          · rcases g34.nw b o hb with z | z
            · exact gr.nw b o z
            · right
              have : (cut H2 L) b = none := by
                unfold cut
                split
                · rfl
                · exact z
              exact none_back gr.h this
        · rw [List.take_add_one, List.getElem?_eq_getElem hlt]
          show DpAll K G4 (us ++ [v]) ((ds.take i ++ [ds[i]]).map F)
          rw [List.map_append]
          exact dpa_app (dpa_mono g34.g du) (.cons dv .nil)
      · have e : i = ds.length := by omega
        subst e
        refine .inl ⟨it.stop G2 H2 gr.g (gr.s.trans cutSame), ?_⟩
        rw [List.take_length] at du
        have sm : Same G2 (upd G2 L (.lst us)) := fun b o hb => by rw [upd_ne (ne_of_none hb l1)]; exact hb
        refine k (.ref L) (upd G2 L (.lst us)) H2 (g1.trans ⟨gr.g.trans sm, fun b o hb => ?_, fun b o hb => ?_, fun b o hb => ?_⟩) (.lst (.of upd_same) (dpa_mono sm du))
        · exact cutSame _ _ (gr.h _ _ hb)
        · by_cases z : b = L
          · subst z; rw [upd_same] at hb; rw [l2]; exact hb
          · rw [upd_ne z] at hb; exact cutSame _ _ (gr.s _ _ hb)
        · by_cases z : b = L
          · subst z; exact .inr hL
          · rw [upd_ne z] at hb; exact gr.nw b o hb
/-- d.get(k, x) -/
theorem dpx_get {n : Int} {ty tx : TE} {v : D} (hb : Gb a = some (.dK kvs)) (hv : (∃ u, valV kvs (.inl n) = some u ∧ Dp K Gb u v) ∨ (valV kvs (.inl n) = none ∧ d = v)) (hy : DP K ty ρ (.int n)) (hx : DP K tx ρ d) : DPx K i0 a Gb (tDGet2 (tVar i0) ty tx) ρ v := fun σ G H E hσ hG T k =>
  ⟨.ref a, hσ, a, rfl, .inl ⟨kvs, .inl (E.sub _ _ (hG _ _ hb))⟩, hy σ G H E _ fun y G1 H1 g1 dy => hx σ G1 H1 (E.grow g1) _ fun z G2 H2 g2 dz => by
    cases dy
    have sm : Same Gb G2 := (hG.trans g1.g).trans g2.g
    refine ⟨valV kvs (.inl n), DGet.k (k := Sum.inl n) (g2.s _ _ (sm _ _ hb)), ?_⟩
    rcases hv with ⟨u, e, q⟩ | ⟨e, q⟩
    · rw [e]; exact k u G2 H2 (g1.trans g2) (dp_mono sm q)
    · rw [e]; subst q; exact k z G2 H2 (g1.trans g2) dz⟩
/-- max(list(d)), keys numbers -/
theorem dpx_maxKeys {ns : List Int} {m : Int} (hb : Gb a = some (.dK kvs)) (hk : kvs.map (·.1) = ns.map Sum.inl) (hm : m ∈ ns) (hmax : ∀ y ∈ ns, y ≤ m) : DPx K i0 a Gb (tCB (rMax K) (tCons (tCB rListD (tCons (tVar i0) tNil)) tNil)) ρ (.int m) := fun σ G H E hσ hG T k =>
  ⟨.ref a, hσ, a, kvs, rfl, E.sub _ _ (hG _ _ hb), fun q hq => by
    have gn := Grow.new E.sub hq (.lst (kvs.map fun kv => kV kv.1))
    have e : (kvs.map fun kv => kV kv.1) = ns.map V.int := by
      rw [show (kvs.map fun kv => kV kv.1) = (kvs.map (·.1)).map kV by rw [List.map_map]; rfl, hk, List.map_map]; rfl
    refine ⟨q, ns, rfl, .of (by rw [upd_same, e]), List.length_pos_of_mem hm, fun y hy hall => ?_⟩
    have : y = m := Int.le_antisymm (hmax y hy) (hall m hm)
    subst this
    exact k (.int y) _ _ gn (.int y)⟩
theorem dipx_rng1 {te : TE} {n : Int} (h : DPx K i0 a Gb te ρ (.int n)) (h1 : -(2 ^ 62) ≤ n) (h2 : n < 2 ^ 62) : DIPx K i0 a Gb (iRng1 (tCons te tNil)) ρ ((List.range n.toNat).map fun i : Nat => PyData.int (i : Int)) := fun σ G H E hσ hG R k =>
  h σ G H E hσ hG _ fun v G1 H1 g1 dv => by
    cases dv
    refine ⟨n, rfl, h1, h2, k _ G1 H1 g1 ⟨fun i d G' H' e a b => ?_, fun G' H' a b => ?_⟩⟩
    · have hi : i < n.toNat := by
        have := (List.getElem?_eq_some_iff.mp e).1
        rw [List.length_map, List.length_range] at this
        exact this
      refine ⟨hi, fun x H2 y => ?_⟩
      obtain ⟨rfl, rfl⟩ := y
      refine ⟨G', .refl b, ?_⟩
      rw [List.getElem?_map, List.getElem?_range hi] at e
      cases e
      rw [Int.zero_add]
      exact .int _
    · show n.toNat ≤ _
      rw [List.length_map, List.length_range]
      exact Nat.le_refl _
theorem dpx_add1 {te : TE} {n m : Int} (h : DPx K i0 a Gb te ρ (.int n)) : DPx K i0 a Gb (tOp rAddI te (tC (.int m))) ρ (.int (n + m)) := fun σ G H E hσ hG T k =>
  h σ G H E hσ hG _ fun v G1 H1 g1 dv => by
    cases dv
    exact ⟨n, m, rfl, rfl, k (.int (n + m)) G1 H1 g1 (.int _)⟩
theorem dpx_tupOf {te : TE} {ds : List D} (h : DPx K i0 a Gb te ρ (.list ds)) : DPx K i0 a Gb (tCB (rTupOf K) (tCons te tNil)) ρ (.tuple ds) := fun σ G H E hσ hG T k =>
  h σ G H E hσ hG _ fun v G1 H1 g1 dv => rc_tupOf (K := K) (Q := fun d => d = .tuple ds) rfl G1 H1 [v] g1.s (.cons dv .nil) T fun u f G2 H2 e g2 du => by subst e; exact k u G2 H2 (g1.trans g2) du
end
end DL
namespace DL
open PySem PySem.Spec PyProof.Rows L2
section
variable {K : Fg} {ρ : List Sl} {ta tb te : TE} {t : TT} {d e : D}
/-- an own list and a new one, put together -/
theorem dn_cat {k : Nat} {p : Addr} {cs : List D} {Q : List D → List Sl → Prop} (hk : ρ[k]? = some (.ce p cs)) (hb : DN K tb ρ fun es ρ1 => ρ1[k]? = some (.ce p cs) ∧ cs.length + es.length ≤ sizeLine ∧ Q (cs ++ es) ρ1) : DN K (tOp rCat (tVar k) tb) ρ Q := fun σ G H E T w => by
  obtain ⟨h1, _, _, _, _⟩ := E.ce k p cs hk
  refine ⟨.ref p, h1, hb σ G H E _ fun q es vs ρ1 G1 H1 ⟨hk1, hl, hq⟩ s1 E1 hq0 gq hq1 nc dv => ?_⟩
  obtain ⟨_, gp, us, hp, du⟩ := E1.ce k p cs hk1
  refine ⟨p, q, us, vs, rfl, rfl, hp, hq1, by rw [dpa_len du, dpa_len dv]; exact hl, fun r hr => ?_⟩
  refine w r (cs ++ es) (us ++ vs) ρ1 G1 _ hq (s1.trans (.alloc hr _)) (E1.alloc hr _) (s1.dom r hr) (none_back E1.sub hr) upd_same ?_ (dpa_app du dv)
  rintro ⟨i, fs, hi⟩
  obtain ⟨_, _, ws, a3, _⟩ := E1.ce i r fs hi
  rw [hr] at a3; cases a3
theorem dn_if {b : Bool} {Q : List D → List Sl → Prop} (h : DTP K t ρ b) (h1 : b = true → DN K ta ρ Q) (h2 : b = false → DN K tb ρ Q) : DN K (tIf t ta tb) ρ Q := fun σ G H E T k =>
  h σ G H E _ fun G1 H1 g => by
    have hn : ∀ {p : Addr}, H1 p = none → H p = none := fun hp => none_back g.h hp
    cases b with
    | true => exact iteT (h1 rfl σ G1 H1 (E.grow g) _ fun p ds vs ρ' G' H' q s e hp gp hh nc dv => k p ds vs ρ' G' H' q (g.step.trans s) e (hn hp) gp hh nc dv)
    | false => exact iteF (h2 rfl σ G1 H1 (E.grow g) _ fun p ds vs ρ' G' H' q s e hp gp hh nc dv => k p ds vs ρ' G' H' q (g.step.trans s) e (hn hp) gp hh nc dv)
theorem DN.mono' {Q Q' : List D → List Sl → Prop} (h : DN K te ρ Q) (k : ∀ d ρ', Q d ρ' → Q' d ρ') : DN K te ρ Q' := fun σ G H E T q => h σ G H E T fun p ds vs ρ' G' H' z => q p ds vs ρ' G' H' (k ds ρ' z)
theorem de_tupNew {Q : D → List Sl → Prop} (h : DN K te ρ fun ds ρ1 => Q (.tuple ds) ρ1) : DE K (tCB (rTupOf K) (tCons te tNil)) ρ Q :=
  de_cb (da_cons (de_new (h.mono' fun ds ρ1 q => da_nil (rc_tupOf q))))
end
end DL

set_option exponentiation.threshold 20000
/-! Texts of integers, fractions, numbers of a field, as lists of signs: plain. -/
namespace DL
open PySem PySem.Spec PyProof.Rows L2
open TL
open PySem.NumText (AllDigits digitsVal)
abbrev sg (c : Nat) : Prop := c = 43 ∨ c = 45
def bareL (l : List Nat) : List Nat := if l.take 1 = [45] then l.drop 1 else l
def digB (c : Nat) : Bool := decide (48 ≤ c ∧ c ≤ 57)
def isIT (l : List Nat) : Bool := (!decide (bareL l = []) && decide ((bareL l).length ≤ 300) && (bareL l).all digB) && (decide (l = [48]) || !decide ((bareL l).take 1 = [48]))
def intV (l : List Nat) : Int := if l.take 1 = [45] then -((digitsVal (l.drop 1) : Nat) : Int) else ((digitsVal l : Nat) : Int)
def rdI (l : List Nat) : Option Int := if isIT l = true then some (intV l) else none

theorem all_dig {l : List Nat} : l.all digB = true ↔ AllDigits l := by
  rw [List.all_eq_true]
  exact ⟨fun h c hc => of_decide_eq_true (h c hc), fun h c hc => decide_eq_true (h c hc)⟩
theorem dig_ne {l : List Nat} (h : AllDigits l) : l.take 1 ≠ [45] := by
  cases l with
  | nil => intro z; cases z
  | cons c r =>
    intro z
    have e : c = 45 := (List.cons.inj z).1
    have := h c (List.mem_cons_self ..)
    omega
theorem bare_dig {l : List Nat} (h : AllDigits l) : bareL l = l := if_neg (dig_ne h)
theorem bare_min (l : List Nat) : bareL (45 :: l) = l := if_pos rfl
theorem it_cases {l : List Nat} (h : isIT l = true) : (AllDigits l ∧ l ≠ [] ∧ l.length ≤ 300 ∧ intV l = ((digitsVal l : Nat) : Int)) ∨ ∃ cs, l = 45 :: cs ∧ AllDigits cs ∧ cs ≠ [] ∧ cs.length ≤ 300 ∧ intV l = -((digitsVal cs : Nat) : Int) := by
  unfold isIT at h
  simp only [Bool.and_eq_true, Bool.not_eq_true', decide_eq_false_iff_not, decide_eq_true_eq] at h
  obtain ⟨⟨⟨h1, h2⟩, h3⟩, _⟩ := h
  rw [all_dig] at h3
  by_cases z : l.take 1 = [45]
  · right
    unfold bareL at h1 h2 h3
    rw [if_pos z] at h1 h2 h3
    cases l with
    | nil => cases z
    | cons c r =>
      have e : c = 45 := (List.cons.inj z).1
      subst e
      exact ⟨r, rfl, h3, h1, h2, if_pos z⟩
  · left
    unfold bareL at h1 h2 h3
    rw [if_neg z] at h1 h2 h3
    exact ⟨h3, h1, h2, if_neg z⟩
theorem it_int {x : Str} (h : isIT (tl x) = true) : PySem.intText? x = some (intV (tl x)) ∧ x.length ≤ 301 := by
  have hl := len_tl x
  rcases it_cases h with ⟨a, b, c, d⟩ | ⟨cs, e, a, b, c, d⟩
  · rw [d]
    exact ⟨PySem.intText_digits a b (by omega), by omega⟩
  · rw [d]
    have : (tl x).length = cs.length + 1 := by rw [e]; rfl
    exact ⟨PySem.intText_neg e a b (by omega), by omega⟩
theorem foldV_lt : ∀ (l : List Nat) (a k : Nat), AllDigits l → a < 10 ^ k → l.foldl (fun acc c => acc * 10 + (c - 48)) a < 10 ^ (k + l.length)
  | [], a, k, _, h => h
  | c :: r, a, k, hd, h => by
    have hc := hd c (List.mem_cons_self ..)
    have : a * 10 + (c - 48) < 10 ^ (k + 1) := by rw [Nat.pow_succ]; omega
    have := foldV_lt r _ (k + 1) (fun d hh => hd d (List.mem_cons_of_mem _ hh)) this
    rw [List.length_cons, show k + (r.length + 1) = k + 1 + r.length by omega]
    exact this
theorem val_lt {l : List Nat} (h : AllDigits l) : digitsVal l < 10 ^ l.length := by
  have := foldV_lt l 0 0 h (by decide)
  rw [Nat.zero_add] at this
  exact this
theorem it_lt {l : List Nat} (h : isIT l = true) : (intV l).natAbs < 10 ^ 300 := by
  have key : ∀ cs : List Nat, AllDigits cs → cs.length ≤ 300 → digitsVal cs < 10 ^ 300 := fun cs a b => Nat.lt_of_lt_of_le (val_lt a) (Nat.pow_le_pow_right (by decide) b)
  rcases it_cases h with ⟨a, b, c, d⟩ | ⟨cs, e, a, b, c, d⟩
  · rw [d, Int.natAbs_natCast]; exact key _ a c
  · rw [d, Int.natAbs_neg, Int.natAbs_natCast]; exact key _ a c
/-! ### numbers written -/
theorem numL_head (n : Nat) : 0 < n → (numL n).take 1 ≠ [48] := by
  induction n using Nat.strongRecOn with
  | _ n ih =>
    intro h0
    by_cases h : n < 10
    · rw [numL_lt h]
      intro z
      have := (List.cons.inj z).1
      omega
    · rw [numL_step (by omega)]
      have hne := numL_ne (n / 10)
      have := ih (n / 10) (by omega) (by omega)
      cases q : numL (n / 10) with
      | nil => exact absurd q hne
      | cons c r => rw [q] at this; exact this
theorem tl_neg (m : Nat) : tl (Str.ofString (toString (Int.negSucc m))) = 45 :: numL (m + 1) := by
  rw [tl_ofString]
  have e : (toString (Int.negSucc m)) = "-" ++ Nat.repr (m + 1) := rfl
  rw [e, String.toList_append, List.map_append]
  have e2 : (Nat.repr (m + 1)).toList.map Char.toNat = numL (m + 1) := by
    rw [Nat.toList_repr]; rfl
  rw [e2]; rfl
theorem it_num {n : Nat} (h : n < 10 ^ 300) : isIT (numL n) = true ∧ intV (numL n) = (n : Int) := by
  have hd := numL_digits n
  have hl := numL_len (k := 300) (by decide) h
  refine ⟨?_, ?_⟩
  · unfold isIT
    rw [bare_dig hd, decide_eq_false (numL_ne n), decide_eq_true hl, all_dig.mpr hd]
    rcases Nat.eq_zero_or_pos n with z | z
    · subst z; decide
    · rw [decide_eq_false (numL_head n z)]; simp
  · unfold intV
    rw [if_neg (dig_ne hd), numL_val]
theorem it_min {n : Nat} (h0 : 0 < n) (h : n < 10 ^ 300) : isIT (45 :: numL n) = true ∧ intV (45 :: numL n) = -(n : Int) := by
  have hd := numL_digits n
  have hl := numL_len (k := 300) (by decide) h
  refine ⟨?_, ?_⟩
  · unfold isIT
    rw [bare_min, decide_eq_false (numL_ne n), decide_eq_true hl, all_dig.mpr hd, decide_eq_false (numL_head n h0)]; simp
  · have e : (45 :: numL n).take 1 = [45] := rfl
    unfold intV
    rw [if_pos e]
    show -((digitsVal (numL n) : Nat) : Int) = _
    rw [numL_val]
theorem tl_str (n : Int) : (∃ m : Nat, n = (m : Int) ∧ tl (Str.ofString (toString n)) = numL m) ∨ ∃ m : Nat, 0 < m ∧ n = -(m : Int) ∧ tl (Str.ofString (toString n)) = 45 :: numL m := by
  cases n with
  | ofNat m => exact .inl ⟨m, rfl, tl_num m⟩
  | negSucc m => exact .inr ⟨m + 1, by omega, Int.negSucc_eq m, tl_neg m⟩
theorem rd_str {n : Int} (h : n.natAbs < 10 ^ 300) : rdI (tl (Str.ofString (toString n))) = some n := by
  unfold rdI
  rcases tl_str n with ⟨m, rfl, e⟩ | ⟨m, h0, rfl, e⟩
  · rw [e]
    obtain ⟨a, b⟩ := it_num (n := m) (by omega)
    rw [if_pos a, b]
  · rw [e]
    obtain ⟨a, b⟩ := it_min h0 (n := m) (by omega)
    rw [if_pos a, b]
theorem str_free {n : Int} {s : Nat} (h : s < 48 ∨ 57 < s) (h2 : s ≠ 45) : s ∉ tl (Str.ofString (toString n)) := by
  rcases tl_str n with ⟨m, rfl, e⟩ | ⟨m, h0, rfl, e⟩
  · rw [e]; exact numL_free h
  · rw [e]
    intro z
    rcases List.mem_cons.mp z with z | z
    · exact h2 z
    · exact numL_free h z
theorem str_len {n : Int} (h : n.natAbs < 10 ^ 300) : (Str.ofString (toString n)).length ≤ 301 := by
  rw [len_tl]
  rcases tl_str n with ⟨m, rfl, e⟩ | ⟨m, h0, rfl, e⟩
  · rw [e]
    have := numL_len (k := 300) (n := m) (by decide) (by omega)
    omega
  · rw [e, List.length_cons]
    have := numL_len (k := 300) (n := m) (by decide) (by omega)
    omega
theorem str_ne (n : Int) : tl (Str.ofString (toString n)) ≠ [] := by
  rcases tl_str n with ⟨m, rfl, e⟩ | ⟨m, h0, rfl, e⟩
  · rw [e]; exact numL_ne m
  · rw [e]; exact fun z => nomatch z
/-! ### parts by one sign -/
theorem pre1 {s c : Nat} {r : List Nat} : pre [s] (c :: r) = decide (c = s) := by
  unfold pre
  show ([c] == [s]) = _
  by_cases h : c = s
  · subst h; simp
  · rw [decide_eq_false h]; simp [h]
theorem spl1_hit {s : Nat} {acc r : List Nat} : spl [s] 0 acc (s :: r) = acc :: spl [s] 0 [] r := spl_hit (by rw [pre1]; simp)
theorem spl1_miss {s c : Nat} {acc r : List Nat} (h : c ≠ s) : spl [s] 0 acc (c :: r) = spl [s] 0 (acc ++ [c]) r := spl_miss (by rw [pre1]; simp [h])
theorem spl_inv {s : Nat} : ∀ (l acc : List Nat), s ∉ acc → ∃ p ps, spl [s] 0 acc l = p :: ps ∧ joinL [s] (p :: ps) = acc ++ l ∧ ∀ q ∈ p :: ps, s ∉ q
  | [], acc, h => ⟨acc, [], by rw [spl_nil], by rw [List.append_nil]; rfl, fun q hq => by rw [List.mem_singleton.mp hq]; exact h⟩
  | c :: r, acc, h => by
    by_cases e : c = s
    · subst e
      obtain ⟨p, ps, e1, e2, e3⟩ := spl_inv r [] (by simp)
      refine ⟨acc, p :: ps, by rw [spl1_hit, e1], ?_, ?_⟩
      · show acc ++ ([c] ++ joinL [c] (p :: ps)) = _
        rw [e2]; rfl
      · intro q hq
        rcases List.mem_cons.mp hq with z | z
        · rw [z]; exact h
        · exact e3 q z
    · obtain ⟨p, ps, e1, e2, e3⟩ := spl_inv r (acc ++ [c]) (by
        intro z
        rcases List.mem_append.mp z with z | z
        · exact h z
        · exact e (List.mem_singleton.mp z).symm)
      refine ⟨p, ps, by rw [spl1_miss e, e1], ?_, e3⟩
      rw [e2, List.append_assoc]; rfl
theorem spl_ne {s : Nat} (l : List Nat) : spl [s] 0 [] l ≠ [] := by
  obtain ⟨p, ps, e, _⟩ := spl_inv l [] (by simp) (s := s)
  rw [e]; exact fun z => nomatch z
theorem spl_1 {s : Nat} {l a : List Nat} (h : spl [s] 0 [] l = [a]) : l = a ∧ s ∉ a := by
  obtain ⟨p, ps, e, e2, e3⟩ := spl_inv l [] (by simp) (s := s)
  rw [h] at e
  obtain ⟨rfl, rfl⟩ := List.cons.inj e
  exact ⟨e2.symm, e3 _ (List.mem_cons_self ..)⟩
theorem spl_2 {s : Nat} {l a b : List Nat} (h : spl [s] 0 [] l = [a, b]) : l = a ++ s :: b ∧ s ∉ a ∧ s ∉ b := by
  obtain ⟨p, ps, e, e2, e3⟩ := spl_inv l [] (by simp) (s := s)
  rw [h] at e
  obtain ⟨rfl, rfl⟩ := List.cons.inj e
  exact ⟨e2.symm, e3 _ (List.mem_cons_self ..), e3 _ (by simp)⟩
theorem spl_of1 {s : Nat} {a : List Nat} (h : s ∉ a) : spl [s] 0 [] a = [a] := by rw [spl_last1 h]; rfl
theorem spl_of2 {s : Nat} {a b : List Nat} (h : s ∉ a) (h2 : s ∉ b) : spl [s] 0 [] (a ++ s :: b) = [a, b] := by
  have := spl_part1 (S := []) (acc := []) (rest := b) h
  rw [show a ++ ([s] ++ b) = a ++ s :: b from rfl] at this
  rw [this, spl_of1 h2]; rfl
/-! ### fractions -/
def readF (l : List Nat) : Option Rat :=
  match spl [47] 0 [] l with
  | [a] => (rdI a).map fun (n : Int) => (n : Rat)
  | [a, b] => match rdI a, rdI b with
    | some t, some w => if 1 < w ∧ Nat.gcd t.natAbs w.natAbs = 1 then some (Rat.divInt t w) else none
    | _, _ => none
  | _ => none
theorem readF_1 {l : List Nat} (h : 47 ∉ l) : readF l = (rdI l).map fun (n : Int) => (n : Rat) := by
  unfold readF; rw [spl_of1 h]
theorem readF_2 {a b : List Nat} (h : 47 ∉ a) (h2 : 47 ∉ b) {t w : Int} (e1 : rdI a = some t) (e2 : rdI b = some w) : readF (a ++ 47 :: b) = if 1 < w ∧ Nat.gcd t.natAbs w.natAbs = 1 then some (Rat.divInt t w) else none := by
  unfold readF
  rw [spl_of2 h h2]
  simp only [e1, e2]
theorem readF_inv {l : List Nat} {q : Rat} (h : readF l = some q) : (∃ n : Int, rdI l = some n ∧ q = (n : Rat)) ∨ ∃ a b t w, l = a ++ 47 :: b ∧ 47 ∉ a ∧ 47 ∉ b ∧ rdI a = some t ∧ rdI b = some w ∧ 1 < w ∧ Nat.gcd t.natAbs w.natAbs = 1 ∧ q = Rat.divInt t w := by
  unfold readF at h
  split at h
  · rename_i a e
    obtain ⟨rfl, _⟩ := spl_1 e
    cases r : rdI l with
    | none => rw [r] at h; cases h
    | some n => rw [r] at h; cases h; exact .inl ⟨n, rfl, rfl⟩
  · rename_i a b e
    obtain ⟨e1, e2, e3⟩ := spl_2 e
    split at h
    · rename_i t w r1 r2
      split at h
      · rename_i hw
        cases h
        exact .inr ⟨a, b, t, w, e1, e2, e3, r1, r2, hw.1, hw.2, rfl⟩
      · cases h
    · cases h
  · cases h
theorem rdI_inv {l : List Nat} {n : Int} (h : rdI l = some n) : isIT l = true ∧ intV l = n := by
  unfold rdI at h
  by_cases z : isIT l = true
  · rw [if_pos z] at h; exact ⟨z, Option.some.inj h⟩
  · rw [if_neg z] at h; cases h
theorem rdI_signs {l : List Nat} {n : Int} (h : rdI l = some n) : (∀ c ∈ l, c = 45 ∨ (48 ≤ c ∧ c ≤ 57)) ∧ (∀ i c, l[i + 1]? = some c → 48 ≤ c ∧ c ≤ 57) ∧ (l[0]? = some 45 → n ≤ 0) ∧ l ≠ [] := by
  obtain ⟨hi, e⟩ := rdI_inv h
  subst e
  rcases it_cases hi with ⟨a, b, c, d⟩ | ⟨cs, e, a, b, c, d⟩
  · refine ⟨fun c hc => .inr (a c hc), fun i c hc => a c (List.mem_of_getElem? hc), fun z => ?_, b⟩
    have := a 45 (List.mem_of_getElem? z)
    omega
  · subst e
    refine ⟨fun c hc => ?_, fun i c hc => a c (List.mem_of_getElem? (by simpa using hc)), fun _ => by rw [d]; omega, fun z => nomatch z⟩
    rcases List.mem_cons.mp hc with z | z
    · exact .inl z
    · exact .inr (a c z)
theorem divInt_num {t w : Int} (hw : 0 < w) (h : Nat.gcd t.natAbs w.natAbs = 1) : (Rat.divInt t w).num = t ∧ ((Rat.divInt t w).den : Int) = w := by
  have e := eP_cop hw h
  injection e with e
  injection e with e1 e2
  injection e2 with e2 e3
  injection e1 with e1
  injection e2 with e2
  exact ⟨e1.symm, e2.symm⟩
theorem readF_signs {l : List Nat} {q : Rat} (h : readF l = some q) : (∀ c ∈ l, c = 45 ∨ c = 47 ∨ (48 ≤ c ∧ c ≤ 57)) ∧ (∀ i c, l[i + 1]? = some c → ¬ sg c) ∧ (l[0]? = some 45 → q.num ≤ 0) := by
  rcases readF_inv h with ⟨n, r, rfl⟩ | ⟨a, b, t, w, rfl, h1, h2, r1, r2, hw, hg, rfl⟩
  · obtain ⟨a, b, c, d⟩ := rdI_signs r
    refine ⟨fun x hx => (a x hx).elim .inl (.inr ∘ .inr), fun i x hx => ?_, fun z => ?_⟩
    · have := b i x hx
      omega
    · rw [Rat.num_intCast]; exact c z
  · obtain ⟨a1, b1, c1, d1⟩ := rdI_signs r1
    obtain ⟨a2, b2, c2, d2⟩ := rdI_signs r2
    refine ⟨fun x hx => ?_, fun i x hx => ?_, fun z => ?_⟩
    · rcases List.mem_append.mp hx with z | z
      · exact (a1 x z).elim .inl (.inr ∘ .inr)
      · rcases List.mem_cons.mp z with z | z
        · exact .inr (.inl z)
        · exact (a2 x z).elim .inl (.inr ∘ .inr)
    · by_cases hi : i + 1 < a.length
      · rw [List.getElem?_append_left hi] at hx
        have := b1 i x hx
        omega
      · rw [List.getElem?_append_right (by omega)] at hx
        cases q : i + 1 - a.length with
        | zero => rw [q] at hx; cases hx; omega
        | succ j =>
          rw [q] at hx
          have hx : b[j]? = some x := by simpa using hx
          cases j with
          | zero =>
            intro z
            have hm := a2 x (List.mem_of_getElem? hx)
            have z45 : x = 45 := by omega
            subst z45
            have := c2 hx
            omega
          | succ j =>
            have := b2 j x hx
            omega
    · rw [(divInt_num (by omega) hg).1]
      refine c1 ?_
      have ha : 0 < a.length := List.length_pos_iff.mpr d1
      rw [List.getElem?_append_left ha] at z
      exact z
/-- a fraction as a text -/
def wF (q : Rat) : Str := if (q.den : Int) = 1 then Str.ofString (toString q.num) else Str.ofString (toString q.num) ++ "/" ++ Str.ofString (toString (q.den : Int))
def Sz (q : Rat) : Prop := q.num.natAbs < 10 ^ 300 ∧ q.den < 10 ^ 300
theorem tl_stroke : tl ("/" : Str) = [47] := by decide
theorem tl_wF2 {q : Rat} (h : ¬ (q.den : Int) = 1) : tl (wF q) = tl (Str.ofString (toString q.num)) ++ 47 :: tl (Str.ofString (toString (q.den : Int))) := by
  unfold wF
  rw [if_neg h, tl_append, tl_append, tl_stroke, List.append_assoc]; rfl
theorem tl_wF1 {q : Rat} (h : (q.den : Int) = 1) : tl (wF q) = tl (Str.ofString (toString q.num)) := by
  unfold wF
  rw [if_pos h]
theorem den_abs (q : Rat) : ((q.den : Int)).natAbs = q.den := Int.natAbs_natCast _
theorem read_wF {q : Rat} (h : Sz q) : readF (tl (wF q)) = some q := by
  by_cases z : (q.den : Int) = 1
  · rw [tl_wF1 z, readF_1 (str_free (by omega) (by omega)), rd_str h.1]
    refine congrArg some ?_
    have : q.den = 1 := by omega
    exact Rat.ext (Rat.num_intCast _) (by rw [Rat.den_intCast, this])
  · have hp := q.den_pos
    rw [tl_wF2 z, readF_2 (str_free (by omega) (by omega)) (str_free (by omega) (by omega)) (rd_str h.1) (rd_str (by rw [den_abs]; exact h.2))]
    rw [if_pos ⟨by omega, by rw [den_abs]; exact q.reduced⟩, Rat.num_divInt_den]
theorem wF_free {q : Rat} {s : Nat} (h : s < 48 ∨ 57 < s) (h2 : s ≠ 45) (h3 : s ≠ 47) : s ∉ tl (wF q) := by
  by_cases z : (q.den : Int) = 1
  · rw [tl_wF1 z]; exact str_free h h2
  · rw [tl_wF2 z]
    intro w
    rcases List.mem_append.mp w with w | w
    · exact str_free h h2 w
    · rcases List.mem_cons.mp w with w | w
      · exact h3 w
      · exact str_free h h2 w
theorem wF_len {q : Rat} (h : Sz q) : (wF q).length ≤ 603 := by
  have h1 := str_len h.1
  have h2 := str_len (n := (q.den : Int)) (by rw [den_abs]; exact h.2)
  rw [len_tl] at h1 h2 ⊢
  by_cases z : (q.den : Int) = 1
  · rw [tl_wF1 z]; omega
  · rw [tl_wF2 z, List.length_append, List.length_cons]; omega
theorem wF_ne (q : Rat) : tl (wF q) ≠ [] := by
  by_cases z : (q.den : Int) = 1
  · rw [tl_wF1 z]; exact str_ne _
  · rw [tl_wF2 z]; simp
theorem wF_zero {q : Rat} (h : tl (wF q) = [48]) : q = 0 := by
  have hs : Sz q := by
    by_cases z : (q.den : Int) = 1
    · rw [tl_wF1 z] at h
      refine ⟨?_, by have : q.den = 1 := by omega
                     rw [this]; decide⟩
      rcases tl_str q.num with ⟨m, e1, e⟩ | ⟨m, h0, e1, e⟩
      · rw [e] at h
        have := numL_val m
        rw [h] at this
        have : 0 = m := this
        rw [e1, ← this]; decide
      · rw [e] at h
        have := (List.cons.inj h).1
        omega
    · rw [tl_wF2 z] at h
      have := congrArg List.length h
      rw [List.length_append, List.length_cons] at this
      have h1 := List.length_pos_iff.mpr (str_ne q.num)
      have h2 := List.length_pos_iff.mpr (str_ne (q.den : Int))
      simp only [List.length_cons, List.length_nil] at this
      omega
  have := read_wF hs
  rw [h] at this
  have e : readF [48] = some 0 := by
    rw [readF_1 (by decide)]
    decide
  rw [e] at this
  exact (Option.some.inj this).symm
end DL

set_option exponentiation.threshold 20000
/-! Numbers of a field as texts: the first sign that fits is the last sign. -/
namespace DL
open PySem PySem.Spec PyProof.Rows L2
open TL
open PySem.NumText (AllDigits digitsVal)
/-- the last sign but at the beginning -/
def LastS (l : List Nat) : Option Nat → Prop
  | none => ∀ i c, 1 ≤ i → l[i]? = some c → ¬ sg c
  | some p => 1 ≤ p ∧ (∃ c, l[p]? = some c ∧ sg c) ∧ ∀ j c, p < j → l[j]? = some c → ¬ sg c
theorem lastS_uniq {l : List Nat} {p : Nat} {r : Option Nat} (h : LastS l r) (h1 : 1 ≤ p) (h2 : ∃ c, l[p]? = some c ∧ sg c) (h3 : ∀ j c, p < j → l[j]? = some c → ¬ sg c) : r = some p := by
  obtain ⟨c, e, hc⟩ := h2
  cases r with
  | none => exact absurd hc (h p c h1 e)
  | some q =>
    obtain ⟨q1, ⟨d, e2, hd⟩, q3⟩ := h
    rcases Nat.lt_trichotomy p q with z | z | z
    · exact absurd hd (h3 q d z e2)
    · rw [z]
    · exact absurd hc (q3 p c z e)
section
variable (fld : Int → Bool)
abbrev RS := Int × Rat × Rat
def fitS (n : Int) (c : Nat) (a b : Option Rat) : Option RS :=
  match a, b with
  | some a, some b => if 0 < b.num ∧ 1 < n ∧ fld n = true then some (n, a, if c = 43 then b else -b) else none
  | _, _ => none
def progS (l : List Nat) : Option Nat → Option RS
  | none => (readF l).map fun a => (1, a, 0)
  | some p => match spl [114] 0 [] (l.drop (p + 1)) with
    | [s, f] => match rdI f with
      | some n => fitS fld n (l.getD p 0) (readF (l.take p)) (readF s)
      | none => none
    | _ => none
def fitAt (n : Int) (h : List Nat) (i : Nat) : Option RS := if sg (h.getD i 0) then fitS fld n (h.getD i 0) (readF (h.take i)) (readF (h.drop (i + 1))) else none
def lawS (l : List Nat) : Option RS :=
  match readF l with
  | some a => some (1, a, 0)
  | none => match spl [114] 0 [] l with
    | [h, f] => if isIT f = true ∧ f.take 1 ≠ [45] ∧ f.take 1 ≠ [48] then (List.range (h.length - 1)).findSome? fun i => fitAt fld (intV f) h (i + 1) else none
    | _ => none
theorem fitS_some {n : Int} {c : Nat} {a b : Option Rat} {v : RS} (h : fitS fld n c a b = some v) : ∃ x y, a = some x ∧ b = some y ∧ 0 < y.num ∧ 1 < n ∧ fld n = true ∧ v = (n, x, if c = 43 then y else -y) := by
  unfold fitS at h
  split at h
  · rename_i x y
    split at h
    · rename_i z
      cases h
      exact ⟨x, y, rfl, rfl, z.1, z.2.1, z.2.2, rfl⟩
    · cases h
  · cases h
theorem free_of_signs {l : List Nat} (h : ∀ c ∈ l, c = 45 ∨ c = 47 ∨ (48 ≤ c ∧ c ≤ 57)) : 114 ∉ l := fun z => by
  have := h 114 z
  omega
theorem rd_nosign {f : List Nat} {n : Int} (h : rdI f = some n) (h0 : f.take 1 ≠ [45]) : ∀ (i c : Nat), f[i]? = some c → ¬ sg c := by
  obtain ⟨a, b, c, d⟩ := rdI_signs h
  intro i x hx
  cases i with
  | zero =>
    have hm := a x (List.mem_of_getElem? hx)
    intro z
    have e : x = 45 := by omega
    subst e
    apply h0
    cases f with
    | nil => cases hx
    | cons y r => cases (show some y = some 45 from hx); rfl
  | succ i => have := b i x hx; omega
theorem take1_of {f : List Nat} {n : Int} (h : rdI f = some n) (hn : 1 < n) : f.take 1 ≠ [45] ∧ f.take 1 ≠ [48] := by
  obtain ⟨h1, h2⟩ := rdI_inv h
  refine ⟨fun z => ?_, fun z => ?_⟩
  · have : intV f ≤ 0 := by unfold intV; rw [if_pos z]; omega
    omega
  · have hb : bareL f = f := if_neg (by rw [z]; decide)
    unfold isIT at h1
    simp only [Bool.and_eq_true, Bool.or_eq_true, Bool.not_eq_true', decide_eq_false_iff_not, decide_eq_true_eq, hb] at h1
    rcases h1.2 with w | w
    · subst w
      have : intV [48] = 0 := by decide
      omega
    · exact w z
/-- where it fits is the last sign -/
theorem fit_last {h f : List Nat} {i : Nat} {n : Int} {v : RS} (hi : 1 ≤ i) (hf : rdI f = some n) (h0 : f.take 1 ≠ [45]) (hs : sg (h.getD i 0)) (hv : fitS fld n (h.getD i 0) (readF (h.take i)) (readF (h.drop (i + 1))) = some v) :
    (∃ c, (h ++ 114 :: f)[i]? = some c ∧ sg c) ∧ (∀ j c, i < j → (h ++ 114 :: f)[j]? = some c → ¬ sg c) ∧ progS fld (h ++ 114 :: f) (some i) = some v := by
  obtain ⟨x, y, e1, e2, y0, n1, fl, ev⟩ := fitS_some fld hv
  have hl : i < h.length := by
    apply Classical.byContradiction
    intro z
    rw [List.getD_eq_getElem?_getD, List.getElem?_eq_none (by omega)] at hs
    rcases hs with z | z <;> cases z
  obtain ⟨s1, s2, s3⟩ := readF_signs e2
  obtain ⟨t1, t2, t3⟩ := readF_signs e1
  obtain ⟨f1, _, _, _⟩ := rdI_signs hf
  have hget : (h ++ 114 :: f)[i]? = some (h.getD i 0) := by
    rw [List.getElem?_append_left hl, List.getD_eq_getElem?_getD, List.getElem?_eq_getElem hl]; rfl
  refine ⟨⟨_, hget, hs⟩, fun j c hj hc => ?_, ?_⟩
  · by_cases z : j < h.length
    · rw [List.getElem?_append_left z] at hc
      have hd : (h.drop (i + 1))[j - (i + 1)]? = some c := by
        rw [List.getElem?_drop]
        rw [show i + 1 + (j - (i + 1)) = j by omega]; exact hc
      cases q : j - (i + 1) with
      | zero =>
        rw [q] at hd
        have hm := s1 c (List.mem_of_getElem? hd)
        intro w
        have e : c = 45 := by rcases w with w | w <;> omega
        subst e
        have := s3 hd
        omega
      | succ k => rw [q] at hd; exact s2 k c hd
    · rw [List.getElem?_append_right (by omega)] at hc
      cases q : j - h.length with
      | zero => rw [q] at hc; cases (show some 114 = some c from hc); intro w; rcases w with w | w <;> cases w
      | succ k => rw [q] at hc; exact rd_nosign hf h0 k c (by simpa using hc)
  · have ed : (h ++ 114 :: f).drop (i + 1) = h.drop (i + 1) ++ 114 :: f := List.drop_append_of_le_length (by omega)
    have et : (h ++ 114 :: f).take i = h.take i := List.take_append_of_le_length (by omega)
    have eg : (h ++ 114 :: f).getD i 0 = h.getD i 0 := by rw [List.getD_eq_getElem?_getD, hget]; rfl
    unfold progS
    simp only [ed, et, eg, spl_of2 (free_of_signs s1) (fun z => by have := f1 114 z; omega), hf]
    exact hv
theorem lawS_prog {l : List Nat} {r : Option Nat} (hr : LastS l r) : progS fld l r = lawS fld l := by
  unfold lawS
  cases hF : readF l with
  | some a =>
    obtain ⟨s1, s2, s3⟩ := readF_signs hF
    have e : r = none := by
      cases r with
      | none => rfl
      | some p =>
        obtain ⟨p1, ⟨c, e, hc⟩, _⟩ := hr
        obtain ⟨k, rfl⟩ : ∃ k, p = k + 1 := ⟨p - 1, by omega⟩
        exact absurd hc (s2 k c e)
    subst e
    show (readF l).map _ = _
    rw [hF]; rfl
  | none =>
    show _ = (match spl [114] 0 [] l with
      | [h, f] => if isIT f = true ∧ f.take 1 ≠ [45] ∧ f.take 1 ≠ [48] then (List.range (h.length - 1)).findSome? fun i => fitAt fld (intV f) h (i + 1) else none
      | _ => none)
    -- what the program finds, the law finds
    have back : ∀ v, progS fld l r = some v → ∃ h f, spl [114] 0 [] l = [h, f] ∧ (isIT f = true ∧ f.take 1 ≠ [45] ∧ f.take 1 ≠ [48]) ∧ ∃ i, i < h.length - 1 ∧ fitAt fld (intV f) h (i + 1) = some v := by
      intro v hv
      cases r with
      | none =>
        have hv : (readF l).map (fun a => ((1 : Int), a, (0 : Rat))) = some v := hv
        rw [hF] at hv; cases hv
      | some p =>
        obtain ⟨p1, ⟨c, e, hc⟩, p3⟩ := hr
        have hl : p < l.length := (List.getElem?_eq_some_iff.mp e).1
        have eg : l.getD p 0 = c := by rw [List.getD_eq_getElem?_getD, e]; rfl
        unfold progS at hv
        simp only at hv
        split at hv
        · rename_i s f es
          obtain ⟨d1, d2, d3⟩ := spl_2 es
          split at hv
          · rename_i n hn
            obtain ⟨x, y, e1, e2, y0, n1, fl, ev⟩ := fitS_some fld hv
            obtain ⟨t1, _, _⟩ := readF_signs e1
            have el : l = (l.take p ++ c :: s) ++ 114 :: f := by
              have h1 := (List.take_append_drop p l).symm
              have h2 : l.drop p = c :: l.drop (p + 1) := by
                rw [List.drop_eq_getElem_cons hl]
                congr 1
                have := (List.getElem?_eq_some_iff.mp e).2
                exact this
              rw [h2, d1] at h1
              rw [List.append_assoc]; exact h1
            have hlen : (l.take p).length = p := by rw [List.length_take]; omega
            refine ⟨l.take p ++ c :: s, f, ?_, ⟨(rdI_inv hn).1, take1_of hn n1⟩, p - 1, ?_, ?_⟩
            · conv => lhs; rw [el]
              refine spl_of2 ?_ d3
              intro z
              rcases List.mem_append.mp z with z | z
              · exact free_of_signs t1 z
              · rcases List.mem_cons.mp z with z | z
                · rcases hc with w | w <;> omega
                · exact d2 z
            · rw [List.length_append, hlen, List.length_cons]; omega
            · have eg2 : (l.take p ++ c :: s).getD p 0 = c := by
                rw [List.getD_eq_getElem?_getD, List.getElem?_append_right (by omega), hlen, Nat.sub_self]; rfl
              have et : (l.take p ++ c :: s).take p = l.take p := by
                rw [List.take_append_of_le_length (by omega)]; exact List.take_of_length_le (by omega)
              have ed : (l.take p ++ c :: s).drop (p + 1) = s := by
                have : p + 1 = (l.take p ++ [c]).length := by rw [List.length_append, hlen]; rfl
                rw [show l.take p ++ c :: s = (l.take p ++ [c]) ++ s by rw [List.append_assoc]; rfl, this, List.drop_left]
              unfold fitAt
              rw [show p - 1 + 1 = p by omega, eg2, if_pos hc, et, ed, (rdI_inv hn).2]
              rw [eg] at hv
              exact hv
          · cases hv
        · cases hv
    split
    · rename_i h f es
      obtain ⟨d1, d2, d3⟩ := spl_2 es
      by_cases hf : isIT f = true ∧ f.take 1 ≠ [45] ∧ f.take 1 ≠ [48]
      · rw [if_pos hf]
        cases hfs : (List.range (h.length - 1)).findSome? fun i => fitAt fld (intV f) h (i + 1) with
        | none =>
          cases hp : progS fld l r with
          | none => rfl
          | some v =>
            obtain ⟨h', f', es', _, i, hi, hv⟩ := back v hp
            rw [es] at es'
            obtain ⟨e1, es'⟩ := List.cons.inj es'
            obtain ⟨e2, _⟩ := List.cons.inj es'
            rw [← e1] at hi hv
            rw [← e2] at hv
            rw [List.findSome?_eq_none_iff] at hfs
            rw [hfs i (List.mem_range.mpr hi)] at hv
            cases hv
        | some v =>
          obtain ⟨i, hi, hv⟩ := List.exists_of_findSome?_eq_some hfs
          have hrd : rdI f = some (intV f) := by unfold rdI; rw [if_pos hf.1]
          unfold fitAt at hv
          by_cases hs : sg (h.getD (i + 1) 0)
          · rw [if_pos hs] at hv
            obtain ⟨a, b, c⟩ := fit_last fld (by omega) hrd hf.2.1 hs hv
            rw [← d1] at a b c
            rw [lastS_uniq hr (by omega) a b]
            exact c
          · rw [if_neg hs] at hv; cases hv
      · rw [if_neg hf]
        cases hp : progS fld l r with
        | none => rfl
        | some v =>
          obtain ⟨h', f', es', hf', _⟩ := back v hp
          rw [es] at es'
          obtain ⟨e1, es'⟩ := List.cons.inj es'
          obtain ⟨e2, _⟩ := List.cons.inj es'
          rw [← e2] at hf'
          exact absurd hf' hf
    · rename_i hno
      cases hp : progS fld l r with
      | none => rfl
      | some v =>
        obtain ⟨h', f', es', _⟩ := back v hp
        exact absurd es' (hno h' f')
end
end DL

set_option exponentiation.threshold 20000
/-! Slices, signs, digits over data. -/
namespace DL
open PySem PySem.Spec PyProof.Rows L2
open TL
open PySem.NumText (AllDigits digitsVal)
theorem tl_take (x : Str) (k : Nat) : tl (cutS x none (some (k : Int))) = (tl x).take k := by
  show ((tl x).drop (HT.sIx x.length 0 none)).take (HT.sIx x.length x.length (some (k : Int)) - HT.sIx x.length 0 none) = _
  rw [HT.sIx_none, HT.sIx_nat, List.drop_zero, Nat.sub_zero, len_tl]
  rcases Nat.le_total k (tl x).length with h | h
  · rw [Nat.min_eq_left h]
  · rw [Nat.min_eq_right h, List.take_of_length_le (Nat.le_refl _), List.take_of_length_le h]
theorem tl_drop (x : Str) (k : Nat) : tl (cutS x (some (k : Int)) none) = (tl x).drop k := by
  show ((tl x).drop (HT.sIx x.length 0 (some (k : Int)))).take (HT.sIx x.length x.length none - HT.sIx x.length 0 (some (k : Int))) = _
  rw [HT.sIx_none, HT.sIx_nat, len_tl]
  rcases Nat.le_total k (tl x).length with h | h
  · rw [Nat.min_eq_left h]
    exact List.take_of_length_le (by rw [List.length_drop]; exact Nat.le_refl _)
  · rw [Nat.min_eq_right h, Nat.sub_self, List.take_zero, List.drop_eq_nil_of_le h]
theorem str_eq {x y : Str} : x = y ↔ tl x = tl y := ⟨fun h => by rw [h], ext_tl⟩
theorem digits_tl : tl ("0123456789" : Str) = [48, 49, 50, 51, 52, 53, 54, 55, 56, 57] := by decide
theorem mem_digits (c : Nat) : decide (c ∈ tl ("0123456789" : Str)) = digB c := by
  rw [digits_tl]
  unfold digB
  refine decide_eq_decide.mpr ?_
  simp only [List.mem_cons, List.not_mem_nil, or_false]
  omega
def digF : D → D
  | .str y => .bool (digB (y.cps.getD 0 0))
  | d => d
theorem digF_map (x : Str) : (sgnD x).map digF = ((tl x).map digB).map PyData.bool := by
  unfold sgnD
  rw [List.map_map, List.map_map]
  rfl
def sgn1 (c : Nat) : Str := ⟨#[c]⟩
section
variable {K : Fg} {ρ : List Sl} {ta tb te tl' tf : TE} {P : Po} {i : Int} {j : Nat} {d e : D} {x y : Str}
theorem dp_allDig {vs : List Nat} (hj : (j ∈ vs) = True) (hjl : j < ρ.length) (h : DP K tl' ρ (.str x)) (hz : x.length < sizeLine) (hf : ∀ d, DP K tf ((wipeS ρ vs).set j (.va d)) (.str ("0123456789" : Str))) :
    DP K (tCB (rAll K) (tCons (tLc (iStr tl') (gName j) tYes (tOp rInSg (tVar j) tf) vs) tNil)) ρ (.bool ((tl x).all digB)) := by
  have e : ((tl x).map digB).all id = (tl x).all digB := by rw [List.all_map]; rfl
  rw [← e]
  refine dp_all (DP.is (dp_lcS digF hj h hz fun d hd => ?_) (by rw [digF_map]))
  unfold sgnD at hd
  obtain ⟨c, _, rfl⟩ := List.mem_map.mp hd
  refine DP.is (dp_inS (c := c) (dp_var (by rw [List.getElem?_set_self (by rw [wipeS_length]; exact hjl)])) (hf _)) ?_
  rw [mem_digits]; rfl
end
theorem rdI_no1 {l : List Nat} (h : (!(decide (0 < (bareL l).length) && decide ((bareL l).length ≤ 300)) || !((bareL l).all digB)) = true) : rdI l = none := by
  unfold rdI
  rw [if_neg]
  intro z
  unfold isIT at z
  simp only [Bool.and_eq_true, Bool.not_eq_true', decide_eq_false_iff_not, decide_eq_true_eq] at z
  obtain ⟨⟨⟨h1, h2⟩, h3⟩, _⟩ := z
  have h0 : 0 < (bareL l).length := List.length_pos_iff.mpr h1
  rw [decide_eq_true h0, decide_eq_true h2, h3] at h
  cases h
theorem rdI_2 {l r : List Nat} {c : Nat} (h : (!(decide (0 < (bareL l).length) && decide ((bareL l).length ≤ 300)) || !((bareL l).all digB)) = false) (e : bareL l = c :: r) :
    rdI l = if (decide (c = 48) && (decide (1 < (bareL l).length) || !decide (l = bareL l))) = true then none else some (intV l) := by
  simp only [Bool.or_eq_false_iff, Bool.not_eq_false', Bool.and_eq_true, decide_eq_true_eq] at h
  obtain ⟨⟨h0, h1⟩, h2⟩ := h
  have e1 : isIT l = (decide (l = [48]) || !decide (c = 48)) := by
    unfold isIT
    rw [decide_eq_false (List.length_pos_iff.mp h0), decide_eq_true h1, h2, e]
    rw [show List.take 1 (c :: r) = [c] from rfl]
    simp
  unfold rdI
  rw [e1]
  by_cases hc : c = 48
  · subst hc
    by_cases hl : l = [48]
    · subst hl; rfl
    · have hx : (decide (1 < (bareL l).length) || !decide (l = bareL l)) = true := by
        by_cases z : l = bareL l
        · have : 1 < (bareL l).length := by
            rw [e]
            cases r with
            | nil => rw [e] at z; exact absurd z hl
            | cons a b => rw [List.length_cons, List.length_cons]; omega
          rw [decide_eq_true this]; rfl
        · rw [decide_eq_false z]; simp
      rw [hx, decide_eq_false hl]
      simp
  · rw [decide_eq_false hc]
    simp
theorem bare_cons {l : List Nat} (h : (!(decide (0 < (bareL l).length) && decide ((bareL l).length ≤ 300)) || !((bareL l).all digB)) = false) : ∃ c r, bareL l = c :: r := by
  simp only [Bool.or_eq_false_iff, Bool.not_eq_false', Bool.and_eq_true, decide_eq_true_eq] at h
  cases q : bareL l with
  | nil => rw [q] at h; simp at h
  | cons c r => exact ⟨c, r, rfl⟩
theorem atI_tl {x : Str} {c : Nat} {r : List Nat} (h : tl x = c :: r) : atI x.cps.toList 0 = some c := by
  rw [show x.cps.toList = c :: r from h]
  exact atI_pos (xs := c :: r) (n := 0) rfl (by rw [List.length_cons]; omega)
theorem sgn1_eq {c : Nat} {y : Str} {d : Nat} (hy : tl y = [d]) : decide ((⟨#[c]⟩ : Str) = y) = decide (c = d) := by
  refine decide_eq_decide.mpr ?_
  rw [str_eq, hy]
  show [c] = [d] ↔ _
  simp
def oI : Option Int → D
  | none => .none
  | some n => .int n
def oF : Option Rat → D
  | none => .none
  | some q => eR q
def oS : Option RS → D
  | none => .none
  | some (n, a, b) => .tuple [.int n, eQ a b]
def oN : Option Nat → D
  | none => .none
  | some n => .int (n : Int)
theorem isN_oI {o : Option Int} : isN (oI o) = !o.isSome := by cases o <;> rfl
theorem isN_oF {o : Option Rat} : isN (oF o) = !o.isSome := by cases o <;> rfl
end DL

set_option exponentiation.threshold 20000
/-! Parts of texts; texts of numbers below 0. -/
namespace DL
open PySem PySem.Spec PyProof.Rows L2
open TL
open PySem.NumText (AllDigits digitsVal)
theorem split_tl (x : Str) {y : Str} {s : Nat} (hy : tl y = [s]) (hk : y.cps.all (· < 256) = true) : (Txt.split x y).map tl = spl [s] 0 [] (tl x) := by
  rw [← hy]; exact split_spl x y (by rw [hy]; simp) (kind_ok hk)
theorem joinL_short {S : List Nat} : ∀ {ps : List (List Nat)} {p : List Nat}, p ∈ ps → p.length ≤ (joinL S ps).length
  | [], _, h => nomatch h
  | [q], p, h => by rw [List.mem_singleton.mp h]; exact Nat.le_refl _
  | q :: r :: t, p, h => by
    show _ ≤ (q ++ (S ++ joinL S (r :: t))).length
    rw [List.length_append, List.length_append]
    rcases List.mem_cons.mp h with z | z
    · rw [z]; omega
    · have := joinL_short (S := S) z
      omega
theorem split_short {x y : Str} {s : Nat} (hy : tl y = [s]) (hk : y.cps.all (· < 256) = true) {a : Str} (h : a ∈ Txt.split x y) : a.length ≤ x.length := by
  have e := split_tl x hy hk
  obtain ⟨p, ps, e1, e2, _⟩ := spl_inv (s := s) (tl x) [] (by simp)
  rw [e1] at e
  have hm : tl a ∈ p :: ps := by rw [← e]; exact List.mem_map.mpr ⟨a, h, rfl⟩
  have := joinL_short (S := [s]) hm
  rw [e2] at this
  rw [len_tl, len_tl]; exact this
theorem str_min {m : Nat} (h : 0 < m) : ("-" : Str) ++ Str.ofString (toString (m : Int)) = Str.ofString (toString (-(m : Int))) := by
  apply ext_tl
  obtain ⟨k, rfl⟩ : ∃ k, m = k + 1 := ⟨m - 1, by omega⟩
  rw [tl_append, show -((k + 1 : Nat) : Int) = Int.negSucc k from rfl, tl_neg, tl_num]
  rfl
theorem join_nil (y : Str) : Txt.join y [] = Str.empty := by rw [join_eq]; rfl
theorem app_empty (x : Str) : x ++ Str.empty = x := ext_tl (by rw [tl_append]; show tl x ++ [] = _; rw [List.append_nil])
theorem log_300 {i : Int} (h : i.natAbs < 10 ^ 300) : i.natAbs.log2 < 1920 := by
  have : (10 : Nat) ^ 300 < 2 ^ 1000 := by decide +kernel
  rcases Nat.eq_zero_or_pos i.natAbs with z | z
  · rw [z]; decide
  · exact Nat.lt_trans ((Nat.log2_lt (by omega)).mpr (Nat.lt_trans h this)) (by decide)
theorem ite_str {p : Prop} [Decidable p] {a b : Str} : (if p then PyData.str a else PyData.str b) = PyData.str (if p then a else b) := by split <;> rfl
theorem ite_wF (q : Rat) : (if (q.den : Int) = 1 then PyData.str (Str.ofString (toString q.num)) else PyData.str (Str.ofString (toString q.num) ++ "/" ++ Str.ofString (toString (q.den : Int)))) = PyData.str (wF q) := ite_str
def rdD : D → D
  | .str y => oI (rdI (tl y))
  | d => d
def itD : D → D
  | .str y => .bool (isIT (tl y))
  | d => d
theorem eqv_oI_none {o : Option Int} : PyData.eqv (oI o) .none = o.isNone := by cases o <;> rfl
theorem eqv_pair {q : Rat} {t w : Int} : PyData.eqv (eR q) (.tuple [.int t, .int w]) = (decide (q.num = t) && decide ((q.den : Int) = w)) := by
  show ((q.num == t) && (((q.den : Int) == w) && true)) = _
  rw [Bool.and_true]; rfl
theorem eR_int (n : Int) : eR (n : Rat) = .tuple [.int n, .int 1] := rfl
/-- what stands between strokes -/
def partsF : List Str → Option Rat
  | [a] => (rdI (tl a)).map fun (n : Int) => (n : Rat)
  | [a, b] => match rdI (tl a), rdI (tl b) with
    | some t, some w => if 1 < w ∧ Nat.gcd t.natAbs w.natAbs = 1 then some (Rat.divInt t w) else none
    | _, _ => none
  | _ => none
theorem readF_parts (x : Str) : readF (tl x) = partsF (Txt.split x "/") := by
  have e := split_tl x tl_stroke (by decide +kernel)
  generalize Txt.split x "/" = ps at e
  unfold readF
  rw [← e]
  match ps with
  | [] => rfl
  | [a] => rfl
  | [a, b] => rfl
  | a :: b :: c :: r => rfl
theorem partsF_1 {a : Str} {T : D → Prop} (h : T (oF (partsF [a]))) : T (oF ((rdI (tl a)).map fun (n : Int) => (n : Rat))) := h
theorem partsF_2 {a b : Str} {T : D → Prop} (h : T (oF (partsF [a, b]))) : T (oF (match rdI (tl a), rdI (tl b) with
    | some t, some w => if 1 < w ∧ Nat.gcd t.natAbs w.natAbs = 1 then some (Rat.divInt t w) else none
    | _, _ => none)) := h
theorem sh1 {o : Option Int} : SeqAt.shaped (.list [oI o]) = true := by cases o <;> rfl
theorem sh2 {o p : Option Int} : SeqAt.shaped (.list [oI o, oI p]) = true := by cases o <;> cases p <;> rfl
theorem split_ne {x y : Str} {s : Nat} (hy : tl y = [s]) (hk : y.cps.all (· < 256) = true) : Txt.split x y ≠ [] := fun z => by
  have e := split_tl x hy hk
  rw [z] at e
  exact spl_ne _ e.symm
end DL

set_option exponentiation.threshold 20000
/-! Texts of polynomials. -/
namespace DL
open PySem PySem.Spec PyProof.Rows L2
open TL
open PySem.NumText (AllDigits digitsVal)
/-! ### what may be compared -/
theorem depthAll_le {n : Nat} : ∀ {ds : List D}, (∀ d ∈ ds, PyData.depth d ≤ n) → PyData.depthAll ds ≤ n + 1
  | [], _ => by simp [PyData.depthAll]
  | d :: ds, h => by
    have h1 := depthAll_le (ds := ds) fun e he => h e (List.mem_cons_of_mem _ he)
    have h2 := h d (List.mem_cons_self ..)
    simp only [PyData.depthAll]
    omega
theorem layAll : ∀ {ds : List D}, (∀ d ∈ ds, PyData.canLay0 d = true) → PyData.canLayAll0 ds = true
  | [], _ => by simp [PyData.canLayAll0]
  | d :: ds, h => by
    simp only [PyData.canLayAll0, h d (List.mem_cons_self ..), layAll (ds := ds) fun e he => h e (List.mem_cons_of_mem _ he), Bool.and_self]
theorem sh_list {ds : List D} (h1 : ∀ d ∈ ds, PyData.canLay0 d = true) (h2 : ∀ d ∈ ds, PyData.depth d ≤ 3) : SeqAt.shaped (.list ds) = true := by
  have := depthAll_le h2
  unfold SeqAt.shaped
  rw [Bool.and_eq_true]
  exact ⟨by simp only [PyData.canLay0]; exact layAll h1, decide_eq_true (by simp only [PyData.depth]; omega)⟩
theorem sh_tuple {ds : List D} (h1 : ∀ d ∈ ds, PyData.canLay0 d = true) (h2 : ∀ d ∈ ds, PyData.depth d ≤ 3) : SeqAt.shaped (.tuple ds) = true := by
  have := depthAll_le h2
  unfold SeqAt.shaped
  rw [Bool.and_eq_true]
  exact ⟨by simp only [PyData.canLay0]; exact layAll h1, decide_eq_true (by simp only [PyData.depth]; omega)⟩
theorem sh_polyT (cs : List Rat) : SeqAt.shaped (.tuple (cs.map eR)) = true := sh_tuple (fun d hd => by
  obtain ⟨q, _, rfl⟩ := List.mem_map.mp hd; rfl) (fun d hd => by
  obtain ⟨q, _, rfl⟩ := List.mem_map.mp hd
  show PyData.depth (eR q) ≤ 3
  simp [PyData.depth, PyData.depthAll])
theorem sh_strs {ys : List Str} (h : ∀ y ∈ ys, PyData.strOk y = true) : SeqAt.shaped (.list (ys.map .str)) = true := sh_list (fun d hd => by
  obtain ⟨y, hy, rfl⟩ := List.mem_map.mp hd; simp only [PyData.canLay0]; exact h y hy) (fun d hd => by
  obtain ⟨y, hy, rfl⟩ := List.mem_map.mp hd; simp [PyData.depth])
theorem eqv_nilT (ds : List D) : PyData.eqv (.tuple ds) (.tuple []) = decide (ds = []) := by cases ds <;> rfl
theorem eqv_nilL (ds : List D) : PyData.eqv (.list ds) (.list []) = decide (ds = []) := by cases ds <;> rfl
theorem strOk_of {x : Str} (h : ∀ c ∈ tl x, c < 1114112) : PyData.strOk x = true := by
  unfold PyData.strOk
  rw [Array.all_eq_true]
  intro i hi
  refine decide_eq_true (h _ ?_)
  show _ ∈ x.cps.toList
  rw [Array.mem_toList_iff]
  exact Array.getElem_mem hi
/-! ### polynomials -/
structure PolyOk (cs : List Rat) : Prop where
  len : cs.length ≤ 21
  told : ∀ q ∈ cs, Sz q
  last : ∀ l q, cs = l ++ [q] → q ≠ 0
theorem snoc_cases (cs : List Rat) : cs = [] ∨ ∃ l q, cs = l ++ [q] := by
  rcases cs.eq_nil_or_concat with h | ⟨l, q, h⟩
  · exact .inl h
  · exact .inr ⟨l, q, by rw [h, List.concat_eq_append]⟩
def pwX (k : Nat) : Str := if k = 0 then "" else if k = 1 then "x" else "x" ++ Str.ofString (toString (k : Int))
def pwL (k : Nat) : Str := if k = 0 then "" else if k = 1 then " x" else " x" ++ Str.ofString (toString (k : Int))
def partT (q : Rat) (k : Nat) : Str := wF q ++ pwL k
def idxs (cs : List Rat) : Nat → List Nat
  | 0 => []
  | k + 1 => if cs.getD k 0 ≠ 0 then k :: idxs cs k else idxs cs k
def partsP (cs : List Rat) (n : Nat) : List Str := (idxs cs n).map fun k => partT (cs.getD k 0) k
def polyT (cs : List Rat) : Str := if partsP cs cs.length = [] then "0" else Txt.join ", " (partsP cs cs.length)
theorem idxs_mem {cs : List Rat} : ∀ {n k : Nat}, k ∈ idxs cs n ↔ k < n ∧ cs.getD k 0 ≠ 0
  | 0, k => by simp [idxs]
  | n + 1, k => by
    unfold idxs
    by_cases h : cs.getD n 0 ≠ 0
    · rw [if_pos h, List.mem_cons, idxs_mem]
      constructor
      · rintro (z | z)
        · subst z; exact ⟨by omega, h⟩
        · exact ⟨by omega, z.2⟩
      · rintro ⟨a, b⟩
        by_cases z : k = n
        · exact .inl z
        · exact .inr ⟨by omega, b⟩
    · rw [if_neg h, idxs_mem]
      constructor
      · rintro ⟨a, b⟩; exact ⟨by omega, b⟩
      · rintro ⟨a, b⟩
        refine ⟨?_, b⟩
        by_cases z : k = n
        · subst z; exact absurd b h
        · omega
theorem idxs_nodup {cs : List Rat} : ∀ n : Nat, (idxs cs n).Nodup
  | 0 => by simp [idxs]
  | n + 1 => by
    unfold idxs
    split
    · rw [List.nodup_cons]
      exact ⟨fun h => by have := (idxs_mem.mp h).1; omega, idxs_nodup n⟩
    · exact idxs_nodup n
theorem idxs_len {cs : List Rat} : ∀ n : Nat, (idxs cs n).length ≤ n
  | 0 => Nat.le_refl _
  | n + 1 => by
    have := idxs_len (cs := cs) n
    unfold idxs
    split
    · rw [List.length_cons]; omega
    · omega
theorem partsP_yes {cs : List Rat} {k : Nat} (h : cs.getD k 0 ≠ 0) : partsP cs (k + 1) = partT (cs.getD k 0) k :: partsP cs k := by
  unfold partsP
  rw [show idxs cs (k + 1) = k :: idxs cs k from if_pos h]; rfl
theorem partsP_no {cs : List Rat} {k : Nat} (h : ¬ cs.getD k 0 ≠ 0) : partsP cs (k + 1) = partsP cs k := by
  unfold partsP
  rw [show idxs cs (k + 1) = idxs cs k from if_neg h]
theorem join_1 (y a : Str) : Txt.join y [a] = a := by rw [join_eq]; rfl
theorem join_2 (y a b : Str) : Txt.join y [a, b] = a ++ y ++ b := by rw [join_eq]; rfl
theorem blank_tl : tl (" " : Str) = [32] := by decide
theorem x_tl : tl ("x" : Str) = [120] := by decide
theorem bx_tl : tl (" x" : Str) = [32, 120] := by decide
theorem comma_tl : tl (", " : Str) = [44, 32] := by decide
theorem emp_tl : tl ("" : Str) = [] := by decide
theorem pwX_0 : pwX 0 = "" := rfl
theorem pwX_ne {k : Nat} (h : k ≠ 0) : pwX k ≠ "" := by
  rw [Ne, str_eq, emp_tl]
  unfold pwX
  rw [if_neg h]
  split
  · rw [x_tl]; exact fun z => nomatch z
  · rw [tl_append, x_tl]; exact fun z => nomatch z
theorem wF_ne' (q : Rat) : wF q ≠ "" := by rw [Ne, str_eq, emp_tl]; exact wF_ne q
theorem partT_0 (q : Rat) : partT q 0 = wF q := by
  unfold partT
  apply ext_tl
  rw [tl_append, show pwL 0 = "" from rfl, emp_tl, List.append_nil]
theorem partT_s {q : Rat} {k : Nat} (h : k ≠ 0) : wF q ++ " " ++ pwX k = partT q k := by
  unfold partT pwL pwX
  rw [if_neg h, if_neg h]
  apply ext_tl
  rw [tl_append, tl_append, tl_append, blank_tl, List.append_assoc]
  split
  · rw [x_tl, bx_tl]; rfl
  · rw [tl_append, tl_append, x_tl, bx_tl]; rfl
theorem pwL_mem {k c : Nat} (h : c ∈ tl (pwL k)) : c = 32 ∨ c = 120 ∨ (48 ≤ c ∧ c ≤ 57) := by
  unfold pwL at h
  split at h
  · rw [emp_tl] at h; cases h
  · split at h
    · rw [bx_tl] at h
      simp only [List.mem_cons, List.not_mem_nil, or_false] at h
      omega
    · rw [tl_append, bx_tl, tl_num] at h
      rcases List.mem_append.mp h with z | z
      · simp only [List.mem_cons, List.not_mem_nil, or_false] at z
        omega
      · have := numL_digits k c z
        omega
theorem wF_mem {q : Rat} {c : Nat} (h : c ∈ tl (wF q)) : c = 45 ∨ c = 47 ∨ (48 ≤ c ∧ c ≤ 57) := by
  apply Classical.byContradiction
  intro z
  exact wF_free (q := q) (s := c) (by omega) (by omega) (by omega) h
theorem partT_mem {q : Rat} {k c : Nat} (h : c ∈ tl (partT q k)) : c = 45 ∨ c = 47 ∨ (48 ≤ c ∧ c ≤ 57) ∨ c = 32 ∨ c = 120 := by
  unfold partT at h
  rw [tl_append] at h
  rcases List.mem_append.mp h with z | z
  · have := wF_mem z; omega
  · have := pwL_mem z; omega
theorem partT_ok (q : Rat) (k : Nat) : PyData.strOk (partT q k) = true := strOk_of fun c hc => by have := partT_mem hc; omega
theorem partsP_ok (cs : List Rat) (n : Nat) : ∀ y ∈ partsP cs n, PyData.strOk y = true := fun y hy => by
  obtain ⟨k, _, rfl⟩ := List.mem_map.mp hy
  exact partT_ok _ _
theorem pwL_len {k : Nat} (h : k ≤ 100) : (pwL k).length ≤ 303 := by
  unfold pwL
  split
  · decide
  · split
    · decide
    · have h1 : ((k : Int)).natAbs < 10 ^ 300 := by
        have : (100 : Nat) < 10 ^ 300 := by decide +kernel
        omega
      have h3 := str_len h1
      rw [len_tl] at h3 ⊢
      rw [tl_append, bx_tl, List.length_append]
      exact Nat.le_trans (Nat.add_le_add_left h3 2) (by decide)
theorem getD_told {cs : List Rat} (h : ∀ q ∈ cs, Sz q) (k : Nat) : Sz (cs.getD k 0) := by
  rw [List.getD_eq_getElem?_getD]
  cases e : cs[k]? with
  | none => exact ⟨by decide +kernel, by decide +kernel⟩
  | some q => exact h q (List.mem_of_getElem? e)
theorem partT_len {cs : List Rat} (h : ∀ q ∈ cs, Sz q) {k : Nat} (hk : k ≤ 100) : (partT (cs.getD k 0) k).length ≤ 1000 := by
  have h1 := wF_len (getD_told h k)
  have h2 := pwL_len hk
  unfold partT
  rw [len_tl] at h1 h2 ⊢
  rw [tl_append, List.length_append]
  omega
theorem partsP_len {cs : List Rat} (h : PolyOk cs) : ∀ y ∈ partsP cs cs.length, y.length ≤ 1000 := fun y hy => by
  obtain ⟨k, hk, rfl⟩ := List.mem_map.mp hy
  have := (idxs_mem.mp hk).1
  exact partT_len h.told (by have := h.len; omega)
theorem sum_le {n : Nat} : ∀ {l : List Str}, (∀ y ∈ l, y.length ≤ n) → (l.map (·.length)).sum ≤ l.length * n
  | [], _ => by simp
  | y :: l, h => by
    have h1 := sum_le (l := l) fun z hz => h z (List.mem_cons_of_mem _ hz)
    have h2 := h y (List.mem_cons_self ..)
    rw [List.map_cons, List.sum_cons, List.length_cons, Nat.add_mul]
    omega
theorem partsP_sum {cs : List Rat} (h : PolyOk cs) {m : Nat} (hm : m ≤ 2) : ((partsP cs cs.length).map (·.length)).sum + (partsP cs cs.length).length * m ≤ 22000 := by
  have h1 := sum_le (partsP_len h)
  have h2 : (partsP cs cs.length).length ≤ 21 := by
    unfold partsP
    rw [List.length_map]
    exact Nat.le_trans (idxs_len _) h.len
  have h3 : (partsP cs cs.length).length * m ≤ 21 * 2 := Nat.mul_le_mul h2 hm
  have h4 := Nat.mul_le_mul_right 1000 h2
  omega
theorem partsP_ne {cs : List Rat} (h : PolyOk cs) (hc : cs ≠ []) : partsP cs cs.length ≠ [] := by
  rcases snoc_cases cs with z | ⟨l, q, z⟩
  · exact absurd z hc
  · have hq := h.last l q z
    have e : cs.length = l.length + 1 := by rw [z, List.length_append]; rfl
    have eg : cs.getD l.length 0 = q := by
      rw [z, List.getD_eq_getElem?_getD, List.getElem?_append_right (Nat.le_refl _), Nat.sub_self]; rfl
    rw [e, partsP_yes (by rw [eg]; exact hq)]
    exact fun z => nomatch z
theorem atI_poly {cs : List Rat} {k : Nat} {i : Int} (hi : i = (k : Int)) (h : k < cs.length) : atI (cs.map eR) i = some (eR (cs.getD k 0)) := by
  rw [atI_pos hi (by rw [List.length_map]; exact h), List.getElem_map, List.getD_eq_getElem?_getD, List.getElem?_eq_getElem h]; rfl
/-- a joined text's length -/
theorem join_len (y : Str) (ps : List Str) : (Txt.join y ps).length ≤ (ps.map (·.length)).sum + ps.length * y.length := by
  rw [join_eq]
  induction ps with
  | nil => exact Nat.zero_le _
  | cons p r ih =>
    cases r with
    | nil =>
      show p.length ≤ _
      simp
    | cons q r =>
      show (p ++ y ++ Str.join y (q :: r)).length ≤ _
      rw [len_tl, tl_append, tl_append, List.length_append, List.length_append, ← len_tl, ← len_tl, ← len_tl]
      rw [List.map_cons, List.sum_cons, List.length_cons, Nat.add_mul]
      omega
theorem polyT_len {cs : List Rat} (h : PolyOk cs) : (polyT cs).length ≤ 22000 := by
  unfold polyT
  split
  · decide
  · have h1 := join_len ", " (partsP cs cs.length)
    have h2 : (", " : Str).length = 2 := by decide
    rw [h2] at h1
    exact Nat.le_trans h1 (partsP_sum h (Nat.le_refl _))
end DL

set_option exponentiation.threshold 20000
/-! Numbers of a field as texts. -/
namespace DL
open PySem PySem.Spec PyProof.Rows L2
open TL
open PySem.NumText (AllDigits digitsVal)
def absR (b : Rat) : Rat := Rat.divInt (b.num.natAbs : Int) (b.den : Int)
theorem absR_eq (b : Rat) : (.tuple [.int (b.num.natAbs : Int), .int (b.den : Int)] : D) = eR (absR b) :=
  eP_cop (by have := b.den_pos; omega) (by rw [Int.natAbs_natCast, Int.natAbs_natCast]; exact b.reduced)
theorem absR_sz {b : Rat} (h : Sz b) : Sz (absR b) := by
  obtain ⟨e1, e2⟩ := divInt_num (t := (b.num.natAbs : Int)) (w := (b.den : Int)) (by have := b.den_pos; omega) (by rw [Int.natAbs_natCast, Int.natAbs_natCast]; exact b.reduced)
  unfold absR
  refine ⟨by rw [e1, Int.natAbs_natCast]; exact h.1, ?_⟩
  have : (Rat.divInt (b.num.natAbs : Int) (b.den : Int)).den = b.den := by omega
  rw [this]; exact h.2
def surdT (f : Nat) (a b : Rat) : Str := if b.num = 0 then wF a else wF a ++ (if b.num < 0 then ("-" : Str) else ("+" : Str)) ++ wF (absR b) ++ "r" ++ Str.ofString (toString (f : Int))
theorem plus_tl : tl ("+" : Str) = [43] := by decide
theorem min_tl : tl ("-" : Str) = [45] := by decide
theorem r_tl : tl ("r" : Str) = [114] := by decide
theorem pm_tl : tl ("+-" : Str) = [43, 45] := by decide
theorem sign_len (p : Prop) [Decidable p] : (if p then ("-" : Str) else ("+" : Str)).length = 1 := by split <;> decide
theorem app_len (x y : Str) : (x ++ y).length = x.length + y.length := by rw [len_tl, tl_append, List.length_append, ← len_tl, ← len_tl]
theorem surdT_len {f : Nat} {a b : Rat} (ha : Sz a) (hb : Sz b) (hf : f < 10 ^ 300) : (surdT f a b).length ≤ 1600 ∧ (wF a ++ (if b.num < 0 then ("-" : Str) else ("+" : Str))).length ≤ 1600 ∧ (wF a ++ (if b.num < 0 then ("-" : Str) else ("+" : Str)) ++ wF (absR b)).length ≤ 1600 ∧ (wF a ++ (if b.num < 0 then ("-" : Str) else ("+" : Str)) ++ wF (absR b) ++ "r").length ≤ 1600 := by
  have h1 := wF_len ha
  have h2 := wF_len (absR_sz hb)
  have h3 := str_len (n := (f : Int)) (by rw [Int.natAbs_natCast]; exact hf)
  have h4 := sign_len (b.num < 0)
  have h5 : ("r" : Str).length = 1 := by decide
  have hA : (wF a ++ (if b.num < 0 then ("-" : Str) else ("+" : Str))).length ≤ 604 := by rw [app_len, h4]; omega
  have hB : (wF a ++ (if b.num < 0 then ("-" : Str) else ("+" : Str)) ++ wF (absR b)).length ≤ 1207 := by rw [app_len]; omega
  have hC : (wF a ++ (if b.num < 0 then ("-" : Str) else ("+" : Str)) ++ wF (absR b) ++ "r").length ≤ 1208 := by rw [app_len, h5]; omega
  refine ⟨?_, by omega, by omega, by omega⟩
  unfold surdT
  split
  · omega
  · rw [app_len]; omega
theorem surd_ite (f : Nat) (a b : Rat) : (wF a ++ (if b.num < 0 then ("-" : Str) else ("+" : Str)) ++ wF (absR b) ++ "r" ++ Str.ofString (toString (f : Int))) = surdT f a b ∨ b.num = 0 := by
  by_cases h : b.num = 0
  · exact .inr h
  · left; unfold surdT; rw [if_neg h]
theorem sg_pm (c : Nat) : decide (c ∈ tl ("+-" : Str)) = decide (sg c) := by
  rw [pm_tl]
  refine decide_eq_decide.mpr ?_
  simp only [List.mem_cons, List.not_mem_nil, or_false]
theorem sg_in (c : Nat) : decide ((⟨#[c]⟩ : Str) ∈ ([("+" : Str), ("-" : Str)] : List Str)) = decide (sg c) := by
  refine decide_eq_decide.mpr ?_
  rw [List.mem_cons, List.mem_singleton, str_eq, str_eq, plus_tl, min_tl]
  show ([c] = [43] ∨ [c] = [45]) ↔ _
  simp
theorem atI_at {x : Str} {i : Int} {k c : Nat} (hi : i = (k : Int)) (h : (tl x)[k]? = some c) : atI x.cps.toList i = some c := by
  obtain ⟨a, b⟩ := List.getElem?_eq_some_iff.mp h
  rw [atI_pos hi a]
  exact congrArg some b
theorem tl_dropS (x : Str) (k : Nat) : tl (cutS x (some ((k : Int) + 1)) none) = (tl x).drop (k + 1) := tl_drop x (k + 1)
def fldB (n : Int → Bool) : Int → Bool := n
/-- the program's number, by what stands between the root's signs -/
def progP (fld : Int → Bool) (l : List Nat) (p : Nat) : List Str → Option RS
  | [s, f] => match rdI (tl f) with
    | some n => fitS fld n (l.getD p 0) (readF (l.take p)) (readF (tl s))
    | none => none
  | _ => none
theorem progS_parts {fld : Int → Bool} {x : Str} {p : Nat} {y : Str} (hy : tl y = (tl x).drop (p + 1)) : progS fld (tl x) (some p) = progP fld (tl x) p (Txt.split y "r") := by
  have e := split_tl y r_tl (by decide +kernel)
  generalize Txt.split y "r" = ps at e
  unfold progS
  simp only [← hy, ← e]
  match ps with
  | [] => rfl
  | [a] => rfl
  | [a, b] => rfl
  | a :: b :: c :: r => rfl
def lawP (fld : Int → Bool) : List Str → Option RS
  | [h, f] => if isIT (tl f) = true ∧ (tl f).take 1 ≠ [45] ∧ (tl f).take 1 ≠ [48] then (List.range ((tl h).length - 1)).findSome? fun i => fitAt fld (intV (tl f)) (tl h) (i + 1) else none
  | _ => none
theorem lawS_parts {fld : Int → Bool} {x : Str} (h : readF (tl x) = none) : lawS fld (tl x) = lawP fld (Txt.split x "r") := by
  have e := split_tl x r_tl (by decide +kernel)
  generalize Txt.split x "r" = ps at e
  unfold lawS
  simp only [h, ← e]
  match ps with
  | [] => rfl
  | [a] => rfl
  | [a, b] => rfl
  | a :: b :: c :: r => rfl
theorem lawS_some {fld : Int → Bool} {l : List Nat} {a : Rat} (h : readF l = some a) : lawS fld l = some (1, a, 0) := by
  unfold lawS; simp only [h]
theorem fs_some {β : Type} {f : Nat → Option β} {v : β} {i : Nat} : ∀ {N : Nat}, i < N → (∀ j, j < i → f j = none) → f i = some v → (List.range N).findSome? f = some v
  | 0, h, _, _ => by omega
  | N + 1, h, hn, hv => by
    rw [List.range_succ, List.findSome?_append]
    by_cases z : i = N
    · subst z
      have : (List.range i).findSome? f = none := List.findSome?_eq_none_iff.mpr fun j hj => hn j (List.mem_range.mp hj)
      rw [this]
      simp [hv]
    · rw [fs_some (N := N) (by omega) hn hv]; rfl
theorem fs_none {β : Type} {f : Nat → Option β} {N : Nat} (h : ∀ j, j < N → f j = none) : (List.range N).findSome? f = none := List.findSome?_eq_none_iff.mpr fun j hj => h j (List.mem_range.mp hj)
end DL

set_option exponentiation.threshold 20000
/-! The text of a polynomial, read again. -/
namespace DL
open PySem PySem.Spec PyProof.Rows L2
open TL
open PySem.NumText (AllDigits digitsVal)
def wordsT (q : Rat) (k : Nat) : List Str := if k = 0 then [wF q] else [wF q, pwX k]
theorem comma_ok : (", " : Str).cps.all (· < 256) = true := by decide +kernel
theorem blank_ok : (" " : Str).cps.all (· < 256) = true := by decide +kernel
theorem pwX_mem {k c : Nat} (h : c ∈ tl (pwX k)) : c = 120 ∨ (48 ≤ c ∧ c ≤ 57) := by
  unfold pwX at h
  split at h
  · rw [emp_tl] at h; cases h
  · split at h
    · rw [x_tl] at h
      simp only [List.mem_cons, List.not_mem_nil, or_false] at h
      omega
    · rw [tl_append, x_tl, tl_num] at h
      rcases List.mem_append.mp h with z | z
      · simp only [List.mem_cons, List.not_mem_nil, or_false] at z
        omega
      · have := numL_digits k c z
        omega
theorem split_part (q : Rat) (k : Nat) : Txt.split (partT q k) " " = wordsT q k := by
  unfold wordsT
  by_cases h : k = 0
  · subst h
    rw [if_pos rfl, partT_0]
    conv => lhs; rw [← join_1 " " (wF q)]
    refine split_join blank_tl blank_ok (by simp) fun p hp => ?_
    rw [List.mem_singleton.mp hp]
    exact wF_free (by omega) (by omega) (by omega)
  · rw [if_neg h, ← partT_s h, ← join_2 " "]
    refine split_join blank_tl blank_ok (by simp) fun p hp => ?_
    rcases List.mem_cons.mp hp with z | z
    · rw [z]; exact wF_free (by omega) (by omega) (by omega)
    · rw [List.mem_singleton.mp z]
      intro w
      have := pwX_mem w
      omega
theorem split_poly {cs : List Rat} (h : partsP cs cs.length ≠ []) : Txt.split (polyT cs) ", " = partsP cs cs.length := by
  unfold polyT
  rw [if_neg h]
  refine split_join comma_tl comma_ok h fun p hp => ?_
  obtain ⟨k, _, rfl⟩ := List.mem_map.mp hp
  intro w
  have := partT_mem w
  omega
theorem partT_zero {q : Rat} {k : Nat} (h : partT q k = "0") : q = 0 := by
  have e := congrArg tl h
  unfold partT at e
  rw [tl_append, show tl ("0" : Str) = [48] from by decide] at e
  have h1 := wF_ne q
  cases w : tl (wF q) with
  | nil => exact absurd w h1
  | cons c r =>
    rw [w] at e
    have e := List.cons.inj (show c :: (r ++ tl (pwL k)) = 48 :: [] from e)
    have er : r = [] := (List.append_eq_nil_iff.mp e.2).1
    exact wF_zero (by rw [w, e.1, er])
theorem polyT_zero {cs : List Rat} (ok : PolyOk cs) (hc : cs ≠ []) : polyT cs ≠ "0" := by
  intro h
  have hne := partsP_ne ok hc
  have e := split_poly hne
  rw [h] at e
  have e2 : Txt.split ("0" : Str) ", " = [("0" : Str)] := by
    conv => lhs; rw [← join_1 ", " "0"]
    refine split_join comma_tl comma_ok (by simp) fun p hp => ?_
    rw [List.mem_singleton.mp hp]
    decide
  rw [e2] at e
  have hm : ("0" : Str) ∈ partsP cs cs.length := by rw [← e]; exact List.mem_singleton.mpr rfl
  obtain ⟨k, hk, ek⟩ := List.mem_map.mp hm
  exact (idxs_mem.mp hk).2 (partT_zero ek)
theorem x_cut (k : Nat) (h : k ≠ 0) (h1 : k ≠ 1) : cutS (pwX k) (some 1) none = Str.ofString (toString (k : Int)) := by
  apply ext_tl
  rw [show (1 : Int) = ((1 : Nat) : Int) from rfl, tl_drop]
  unfold pwX
  rw [if_neg h, if_neg h1, tl_append, x_tl]; rfl
theorem x_ne {k : Nat} (h : k ≠ 0) : decide (pwX k = "x") = decide (k = 1) := by
  refine decide_eq_decide.mpr ⟨fun e => ?_, fun e => by subst e; rfl⟩
  apply Classical.byContradiction
  intro h1
  have e := congrArg tl e
  unfold pwX at e
  rw [if_neg h, if_neg h1, tl_append, x_tl, tl_num] at e
  exact numL_ne k (List.cons.inj (show 120 :: numL k = 120 :: [] from e)).2
theorem int_str {k : Nat} (h : k ≤ 100) : PySem.intText? (Str.ofString (toString (k : Int))) = some (k : Int) ∧ (Str.ofString (toString (k : Int))).length ≤ 301 := by
  have h1 : ((k : Int)).natAbs < 10 ^ 300 := by
    have : (100 : Nat) < 10 ^ 300 := by decide +kernel
    omega
  have h2 := rd_str h1
  have h3 := it_int (rdI_inv h2).1
  rw [(rdI_inv h2).2] at h3
  exact h3
theorem polyT_nil : polyT [] = "0" := rfl
/-- the top number stands -/
theorem top_mem {cs : List Rat} (ok : PolyOk cs) (hc : cs ≠ []) : cs.length - 1 ∈ idxs cs cs.length := by
  rcases snoc_cases cs with z | ⟨l, q, z⟩
  · exact absurd z hc
  · have hq := ok.last l q z
    have e : cs.length = l.length + 1 := by rw [z, List.length_append]; rfl
    have eg : cs.getD l.length 0 = q := by
      rw [z, List.getD_eq_getElem?_getD, List.getElem?_append_right (Nat.le_refl _), Nat.sub_self]; rfl
    refine idxs_mem.mpr ⟨by omega, ?_⟩
    rw [show cs.length - 1 = l.length by omega, eg]
    exact hq
def getF (cs : List Rat) : D → D
  | .int i => eR (cs.getD i.toNat 0)
  | d => d
theorem getF_map (cs : List Rat) : ((List.range cs.length).map fun i : Nat => PyData.int (i : Int)).map (getF cs) = cs.map eR := by
  rw [List.map_map]
  apply List.ext_getElem
  · simp
  · intro i h1 h2
    have hi : i < cs.length := by simpa using h2
    rw [List.getElem_map, List.getElem_map, List.getElem_range]
    show eR (cs.getD ((i : Int)).toNat 0) = _
    rw [Int.toNat_natCast, List.getD_eq_getElem?_getD, List.getElem?_eq_getElem hi]; rfl
end DL

namespace H75
open PySem PySem.Spec PyProof.Rows L2 DL
def topS (i : Nat) : Stmt := PySem.Challenge.pw_whennumbersstop_k75_whole_polynomials_an.main.body.getD i (.Pass ⟨0, 0, 0, 0⟩)
abbrev s_is_integer : Stmt := topS 13
abbrev s_is_between : Stmt := topS 14
abbrev s_read_integer : Stmt := topS 15
abbrev s_common : Stmt := topS 16
abbrev s_reduced : Stmt := topS 17
abbrev s_is_fraction : Stmt := topS 18
abbrev s_is_told_fraction : Stmt := topS 19
abbrev s_added : Stmt := topS 20
abbrev s_product_of : Stmt := topS 21
abbrev s_integer_text : Stmt := topS 22
abbrev s_fraction_text : Stmt := topS 23
abbrev s_read_fraction : Stmt := topS 24
abbrev s_is_poly : Stmt := topS 27
abbrev s_check_poly : Stmt := topS 28
abbrev s_value_at : Stmt := topS 29
abbrev s_poly_value : Stmt := topS 30
abbrev s_power_text : Stmt := topS 31
abbrev s_poly_text : Stmt := topS 32
abbrev s_text_of_poly : Stmt := topS 33
abbrev s_is_square : Stmt := topS 36
abbrev s_core_told : Stmt := topS 37
abbrev s_is_field : Stmt := topS 38
abbrev s_check_field : Stmt := topS 39
abbrev s_is_surd : Stmt := topS 43
abbrev s_check_surd : Stmt := topS 44
abbrev s_text_of_surd : Stmt := topS 45
abbrev s_surd_text : Stmt := topS 46
abbrev s_split_place : Stmt := topS 47
abbrev s_read_surd : Stmt := topS 48
abbrev s_law_pot : Stmt := topS 50
abbrev s_law_take : Stmt := topS 51
abbrev s_law_of : Stmt := topS 52
abbrev s_law_cells : Stmt := topS 53
abbrev s_law_reduced : Stmt := topS 54
abbrev s_law_minus : Stmt := topS 55
abbrev s_law_great : Stmt := topS 56
abbrev s_law_fraction : Stmt := topS 57
abbrev s_law_written : Stmt := topS 58
abbrev s_law_is_integer_text : Stmt := topS 59
abbrev s_law_read : Stmt := topS 60
abbrev s_law_poly_written : Stmt := topS 61
abbrev s_law_poly_read : Stmt := topS 62
abbrev s_law_bent : Stmt := topS 63
abbrev s_law_surd_written : Stmt := topS 64
abbrev s_law_surd_read : Stmt := topS 65
abbrev s_law_right : Stmt := topS 66
abbrev s_law : Stmt := topS 67
def fn0 : List He.DefD := [defX "is_integer" s_is_integer, defX "is_between" s_is_between, defX "read_integer" s_read_integer, defX "common" s_common, defX "reduced" s_reduced, defX "is_fraction" s_is_fraction, defX "is_told_fraction" s_is_told_fraction, defX "added" s_added, defX "product_of" s_product_of, defX "integer_text" s_integer_text, defX "fraction_text" s_fraction_text, defX "read_fraction" s_read_fraction, defX "is_poly" s_is_poly, defX "check_poly" s_check_poly, defX "value_at" s_value_at, defX "poly_value" s_poly_value, defX "power_text" s_power_text, defX "poly_text" s_poly_text, defX "text_of_poly" s_text_of_poly, defX "is_square" s_is_square, defX "core_told" s_core_told, defX "is_field" s_is_field, defX "check_field" s_check_field, defX "is_surd" s_is_surd, defX "check_surd" s_check_surd, defX "text_of_surd" s_text_of_surd, defX "surd_text" s_surd_text, defX "split_place" s_split_place, defX "read_surd" s_read_surd, defX "_law_pot" s_law_pot]
def fn1 : List He.DefD := [defX "_law_take" s_law_take, defX "_law_of" s_law_of, defX "_law_cells" s_law_cells, defX "_law_reduced" s_law_reduced, defX "_law_minus" s_law_minus, defX "_law_great" s_law_great, defX "_law_fraction" s_law_fraction, defX "_law_written" s_law_written, defX "_law_is_integer_text" s_law_is_integer_text, defX "_law_read" s_law_read, defX "_law_poly_written" s_law_poly_written, defX "_law_poly_read" s_law_poly_read, defX "_law_bent" s_law_bent, defX "_law_surd_written" s_law_surd_written, defX "_law_surd_read" s_law_surd_read, defX "_law_right" s_law_right, defX "law" s_law]
def fn : List He.DefD := fn0 ++ fn1
def fa0 : List Gf := [.def_ "is_integer", .def_ "is_between", .def_ "read_integer", .def_ "common", .def_ "reduced", .def_ "is_fraction", .def_ "is_told_fraction", .def_ "added", .def_ "product_of", .def_ "integer_text", .def_ "fraction_text", .def_ "read_fraction", .def_ "is_poly", .def_ "check_poly", .def_ "value_at", .def_ "poly_value", .def_ "power_text", .def_ "poly_text", .def_ "text_of_poly", .def_ "is_square", .def_ "core_told", .def_ "is_field", .def_ "check_field", .def_ "is_surd", .def_ "check_surd", .def_ "text_of_surd", .def_ "surd_text", .def_ "split_place", .def_ "read_surd", .def_ "_law_pot"]
def fa1 : List Gf := [.def_ "_law_take", .def_ "_law_of", .def_ "_law_cells", .def_ "_law_reduced", .def_ "_law_minus", .def_ "_law_great", .def_ "_law_fraction", .def_ "_law_written", .def_ "_law_is_integer_text", .def_ "_law_read", .def_ "_law_poly_written", .def_ "_law_poly_read", .def_ "_law_bent", .def_ "_law_surd_written", .def_ "_law_surd_read", .def_ "_law_right", .def_ "law", .free "abs", .free "all", .free "bool", .free "int", .free "isinstance", .free "len", .free "list", .free "max", .free "min", .free "range", .free "str", .free "sum", .free "tuple"]
def fa2 : List Gf := [.dat "FIGURES" (.str "0123456789"), .dat "MOST_FIGURES" (.int 300), .dat "BEYOND" (.int (10 ^ 300)), .dat "PART" (.int (10 ^ 4000)), .dat "MINUS" (.str "-"), .dat "STROKE" (.str "/"), .dat "NOTHING" (.tuple [.int 0, .int 1]), .dat "MOST_DEGREE" (.int 20), .dat "MOST_PRIME" (.int 10000), .dat "ROOT_SIGN" (.str "r"), .dat "PLUS" (.str "+"), .blt "gcd" "math.gcd", .blt "isqrt" "math.isqrt"]
def fa : List Gf := fa0 ++ fa1 ++ fa2
abbrev dat_FIGURES : D := .str "0123456789"
abbrev dat_MOST_FIGURES : D := .int 300
abbrev dat_BEYOND : D := .int (10 ^ 300)
abbrev dat_PART : D := .int (10 ^ 4000)
abbrev dat_MINUS : D := .str "-"
abbrev dat_STROKE : D := .str "/"
abbrev dat_NOTHING : D := .tuple [.int 0, .int 1]
abbrev dat_MOST_DEGREE : D := .int 20
abbrev dat_MOST_PRIME : D := .int 10000
abbrev dat_ROOT_SIGN : D := .str "r"
abbrev dat_PLUS : D := .str "+"
structure Cs (K : Fg) (mg : Str → Option Value) : Prop where
  f_abs : mg "abs" = none
  f_all : mg "all" = none
  f_bool : mg "bool" = none
  f_int : mg "int" = none
  f_isinstance : mg "isinstance" = none
  f_len : mg "len" = none
  f_list : mg "list" = none
  f_max : mg "max" = none
  f_min : mg "min" = none
  f_range : mg "range" = none
  f_str : mg "str" = none
  f_sum : mg "sum" = none
  f_tuple : mg "tuple" = none
  d_FIGURES : ∃ v u, mg "FIGURES" = some u ∧ RelV v u ∧ ∀ H, Dp K H v dat_FIGURES
  d_MOST_FIGURES : ∃ v u, mg "MOST_FIGURES" = some u ∧ RelV v u ∧ ∀ H, Dp K H v dat_MOST_FIGURES
  d_BEYOND : ∃ v u, mg "BEYOND" = some u ∧ RelV v u ∧ ∀ H, Dp K H v dat_BEYOND
  d_PART : ∃ v u, mg "PART" = some u ∧ RelV v u ∧ ∀ H, Dp K H v dat_PART
  d_MINUS : ∃ v u, mg "MINUS" = some u ∧ RelV v u ∧ ∀ H, Dp K H v dat_MINUS
  d_STROKE : ∃ v u, mg "STROKE" = some u ∧ RelV v u ∧ ∀ H, Dp K H v dat_STROKE
  d_NOTHING : ∃ v u, mg "NOTHING" = some u ∧ RelV v u ∧ ∀ H, Dp K H v dat_NOTHING
  d_MOST_DEGREE : ∃ v u, mg "MOST_DEGREE" = some u ∧ RelV v u ∧ ∀ H, Dp K H v dat_MOST_DEGREE
  d_MOST_PRIME : ∃ v u, mg "MOST_PRIME" = some u ∧ RelV v u ∧ ∀ H, Dp K H v dat_MOST_PRIME
  d_ROOT_SIGN : ∃ v u, mg "ROOT_SIGN" = some u ∧ RelV v u ∧ ∀ H, Dp K H v dat_ROOT_SIGN
  d_PLUS : ∃ v u, mg "PLUS" = some u ∧ RelV v u ∧ ∀ H, Dp K H v dat_PLUS
  g_gcd : mg "gcd" = some (.builtin "math.gcd")
  g_isqrt : mg "isqrt" = some (.builtin "math.isqrt")
theorem cs_mk {K : Fg} {h : Heap} {mg : Str → Option Value} (X : K.In h) (G : h.Ns mainGlobals mg) (c : SaysX fa fn K) : Cs K mg :=
  ⟨He.free_ok X G (c.fact 47 (f := .free "abs") rfl),
   He.free_ok X G (c.fact 48 (f := .free "all") rfl),
   He.free_ok X G (c.fact 49 (f := .free "bool") rfl),
   He.free_ok X G (c.fact 50 (f := .free "int") rfl),
   He.free_ok X G (c.fact 51 (f := .free "isinstance") rfl),
   He.free_ok X G (c.fact 52 (f := .free "len") rfl),
   He.free_ok X G (c.fact 53 (f := .free "list") rfl),
   He.free_ok X G (c.fact 54 (f := .free "max") rfl),
   He.free_ok X G (c.fact 55 (f := .free "min") rfl),
   He.free_ok X G (c.fact 56 (f := .free "range") rfl),
   He.free_ok X G (c.fact 57 (f := .free "str") rfl),
   He.free_ok X G (c.fact 58 (f := .free "sum") rfl),
   He.free_ok X G (c.fact 59 (f := .free "tuple") rfl),
   gdat_ok X G (c.fact 60 (f := .dat "FIGURES" dat_FIGURES) rfl),
   gdat_ok X G (c.fact 61 (f := .dat "MOST_FIGURES" dat_MOST_FIGURES) rfl),
   gdat_ok X G (c.fact 62 (f := .dat "BEYOND" dat_BEYOND) rfl),
   gdat_ok X G (c.fact 63 (f := .dat "PART" dat_PART) rfl),
   gdat_ok X G (c.fact 64 (f := .dat "MINUS" dat_MINUS) rfl),
   gdat_ok X G (c.fact 65 (f := .dat "STROKE" dat_STROKE) rfl),
   gdat_ok X G (c.fact 66 (f := .dat "NOTHING" dat_NOTHING) rfl),
   gdat_ok X G (c.fact 67 (f := .dat "MOST_DEGREE" dat_MOST_DEGREE) rfl),
   gdat_ok X G (c.fact 68 (f := .dat "MOST_PRIME" dat_MOST_PRIME) rfl),
   gdat_ok X G (c.fact 69 (f := .dat "ROOT_SIGN" dat_ROOT_SIGN) rfl),
   gdat_ok X G (c.fact 70 (f := .dat "PLUS" dat_PLUS) rfl),
   gblt_ok X G (c.fact 71 (f := .blt "gcd" "math.gcd") rfl),
   gblt_ok X G (c.fact 72 (f := .blt "isqrt" "math.isqrt") rfl)⟩
theorem df_mk {K : Fg} {h : Heap} {mg : Str → Option Value} (X : K.In h) (G : h.Ns mainGlobals mg) (c : SaysX fa fn K) : DfX K mg "is_integer" s_is_integer ["value"] ∧ DfX K mg "is_between" s_is_between ["value", "low", "high"] ∧ DfX K mg "read_integer" s_read_integer ["text"] ∧ DfX K mg "common" s_common ["one", "other"] ∧ DfX K mg "reduced" s_reduced ["top", "low"] ∧ DfX K mg "is_fraction" s_is_fraction ["value"] ∧ DfX K mg "is_told_fraction" s_is_told_fraction ["value"] ∧ DfX K mg "added" s_added ["one", "other"] ∧ DfX K mg "product_of" s_product_of ["one", "other"] ∧ DfX K mg "integer_text" s_integer_text ["one"] ∧ DfX K mg "fraction_text" s_fraction_text ["one"] ∧ DfX K mg "read_fraction" s_read_fraction ["text"] ∧ DfX K mg "is_poly" s_is_poly ["value"] ∧ DfX K mg "check_poly" s_check_poly ["poly"] ∧ DfX K mg "value_at" s_value_at ["poly", "number"] ∧ DfX K mg "poly_value" s_poly_value ["poly", "number"] ∧ DfX K mg "power_text" s_power_text ["at"] ∧ DfX K mg "poly_text" s_poly_text ["poly"] ∧ DfX K mg "text_of_poly" s_text_of_poly ["poly"] ∧ DfX K mg "is_square" s_is_square ["number"] ∧ DfX K mg "core_told" s_core_told ["number"] ∧ DfX K mg "is_field" s_is_field ["value"] ∧ DfX K mg "check_field" s_check_field ["field"] ∧ DfX K mg "is_surd" s_is_surd ["field", "value"] ∧ DfX K mg "check_surd" s_check_surd ["field", "value"] ∧ DfX K mg "text_of_surd" s_text_of_surd ["field", "one"] ∧ DfX K mg "surd_text" s_surd_text ["field", "one"] ∧ DfX K mg "split_place" s_split_place ["text"] ∧ DfX K mg "read_surd" s_read_surd ["text"] ∧ DfX K mg "_law_pot" s_law_pot ["script", "place"] ∧ DfX K mg "_law_take" s_law_take ["pot", "upto"] ∧ DfX K mg "_law_of" s_law_of ["pot", "some"] ∧ DfX K mg "_law_cells" s_law_cells ["script", "most"] ∧ DfX K mg "_law_reduced" s_law_reduced ["top", "low"] ∧ DfX K mg "_law_minus" s_law_minus ["one"] ∧ DfX K mg "_law_great" s_law_great ["pot", "most"] ∧ DfX K mg "_law_fraction" s_law_fraction ["pot", "most"] ∧ DfX K mg "_law_written" s_law_written ["one"] ∧ DfX K mg "_law_is_integer_text" s_law_is_integer_text ["word"] ∧ DfX K mg "_law_read" s_law_read ["word"] ∧ DfX K mg "_law_poly_written" s_law_poly_written ["poly"] ∧ DfX K mg "_law_poly_read" s_law_poly_read ["text"] ∧ DfX K mg "_law_bent" s_law_bent ["pot", "text"] ∧ DfX K mg "_law_surd_written" s_law_surd_written ["field", "one"] ∧ DfX K mg "_law_surd_read" s_law_surd_read ["text"] ∧ DfX K mg "_law_right" s_law_right ["pot"] ∧ DfX K mg "law" s_law ["script"] :=
  ⟨dfX X G c 0 0 rfl rfl fun _ _ _ _ _ _ us hl => match us, hl with | [_], _ => rfl,
   dfX X G c 1 1 rfl rfl fun _ _ _ _ _ _ us hl => match us, hl with | [_, _, _], _ => rfl,
   dfX X G c 2 2 rfl rfl fun _ _ _ _ _ _ us hl => match us, hl with | [_], _ => rfl,
   dfX X G c 3 3 rfl rfl fun _ _ _ _ _ _ us hl => match us, hl with | [_, _], _ => rfl,
   dfX X G c 4 4 rfl rfl fun _ _ _ _ _ _ us hl => match us, hl with | [_, _], _ => rfl,
   dfX X G c 5 5 rfl rfl fun _ _ _ _ _ _ us hl => match us, hl with | [_], _ => rfl,
   dfX X G c 6 6 rfl rfl fun _ _ _ _ _ _ us hl => match us, hl with | [_], _ => rfl,
   dfX X G c 7 7 rfl rfl fun _ _ _ _ _ _ us hl => match us, hl with | [_, _], _ => rfl,
   dfX X G c 8 8 rfl rfl fun _ _ _ _ _ _ us hl => match us, hl with | [_, _], _ => rfl,
   dfX X G c 9 9 rfl rfl fun _ _ _ _ _ _ us hl => match us, hl with | [_], _ => rfl,
   dfX X G c 10 10 rfl rfl fun _ _ _ _ _ _ us hl => match us, hl with | [_], _ => rfl,
   dfX X G c 11 11 rfl rfl fun _ _ _ _ _ _ us hl => match us, hl with | [_], _ => rfl,
   dfX X G c 12 12 rfl rfl fun _ _ _ _ _ _ us hl => match us, hl with | [_], _ => rfl,
   dfX X G c 13 13 rfl rfl fun _ _ _ _ _ _ us hl => match us, hl with | [_], _ => rfl,
   dfX X G c 14 14 rfl rfl fun _ _ _ _ _ _ us hl => match us, hl with | [_, _], _ => rfl,
   dfX X G c 15 15 rfl rfl fun _ _ _ _ _ _ us hl => match us, hl with | [_, _], _ => rfl,
   dfX X G c 16 16 rfl rfl fun _ _ _ _ _ _ us hl => match us, hl with | [_], _ => rfl,
   dfX X G c 17 17 rfl rfl fun _ _ _ _ _ _ us hl => match us, hl with | [_], _ => rfl,
   dfX X G c 18 18 rfl rfl fun _ _ _ _ _ _ us hl => match us, hl with | [_], _ => rfl,
   dfX X G c 19 19 rfl rfl fun _ _ _ _ _ _ us hl => match us, hl with | [_], _ => rfl,
   dfX X G c 20 20 rfl rfl fun _ _ _ _ _ _ us hl => match us, hl with | [_], _ => rfl,
   dfX X G c 21 21 rfl rfl fun _ _ _ _ _ _ us hl => match us, hl with | [_], _ => rfl,
   dfX X G c 22 22 rfl rfl fun _ _ _ _ _ _ us hl => match us, hl with | [_], _ => rfl,
   dfX X G c 23 23 rfl rfl fun _ _ _ _ _ _ us hl => match us, hl with | [_, _], _ => rfl,
   dfX X G c 24 24 rfl rfl fun _ _ _ _ _ _ us hl => match us, hl with | [_, _], _ => rfl,
   dfX X G c 25 25 rfl rfl fun _ _ _ _ _ _ us hl => match us, hl with | [_, _], _ => rfl,
   dfX X G c 26 26 rfl rfl fun _ _ _ _ _ _ us hl => match us, hl with | [_, _], _ => rfl,
   dfX X G c 27 27 rfl rfl fun _ _ _ _ _ _ us hl => match us, hl with | [_], _ => rfl,
   dfX X G c 28 28 rfl rfl fun _ _ _ _ _ _ us hl => match us, hl with | [_], _ => rfl,
   dfX X G c 29 29 rfl rfl fun _ _ _ _ _ _ us hl => match us, hl with | [_, _], _ => rfl,
   dfX X G c 30 30 rfl rfl fun _ _ _ _ _ _ us hl => match us, hl with | [_, _], _ => rfl,
   dfX X G c 31 31 rfl rfl fun _ _ _ _ _ _ us hl => match us, hl with | [_, _], _ => rfl,
   dfX X G c 32 32 rfl rfl fun _ _ _ _ _ _ us hl => match us, hl with | [_, _], _ => rfl,
   dfX X G c 33 33 rfl rfl fun _ _ _ _ _ _ us hl => match us, hl with | [_, _], _ => rfl,
   dfX X G c 34 34 rfl rfl fun _ _ _ _ _ _ us hl => match us, hl with | [_], _ => rfl,
   dfX X G c 35 35 rfl rfl fun _ _ _ _ _ _ us hl => match us, hl with | [_, _], _ => rfl,
   dfX X G c 36 36 rfl rfl fun _ _ _ _ _ _ us hl => match us, hl with | [_, _], _ => rfl,
   dfX X G c 37 37 rfl rfl fun _ _ _ _ _ _ us hl => match us, hl with | [_], _ => rfl,
   dfX X G c 38 38 rfl rfl fun _ _ _ _ _ _ us hl => match us, hl with | [_], _ => rfl,
   dfX X G c 39 39 rfl rfl fun _ _ _ _ _ _ us hl => match us, hl with | [_], _ => rfl,
   dfX X G c 40 40 rfl rfl fun _ _ _ _ _ _ us hl => match us, hl with | [_], _ => rfl,
   dfX X G c 41 41 rfl rfl fun _ _ _ _ _ _ us hl => match us, hl with | [_], _ => rfl,
   dfX X G c 42 42 rfl rfl fun _ _ _ _ _ _ us hl => match us, hl with | [_, _], _ => rfl,
   dfX X G c 43 43 rfl rfl fun _ _ _ _ _ _ us hl => match us, hl with | [_, _], _ => rfl,
   dfX X G c 44 44 rfl rfl fun _ _ _ _ _ _ us hl => match us, hl with | [_], _ => rfl,
   dfX X G c 45 45 rfl rfl fun _ _ _ _ _ _ us hl => match us, hl with | [_], _ => rfl,
   dfX X G c 46 46 rfl rfl fun _ _ _ _ _ _ us hl => match us, hl with | [_], _ => rfl⟩
end H75

namespace H75
open PySem PySem.Spec PyProof.Rows L2 DL
theorem kit_ii : kitB "int" "int" = some true := by decide +kernel
theorem kit_ib : kitB "int" "bool" = some false := by decide +kernel
theorem kit_tt : kitB "tuple" "tuple" = some true := by decide +kernel
def c_is_integer : Call := fun ds T => ∃ i, ds = [.int i] ∧ T (.bool true)
theorem len_is_integer {ds T} (h : c_is_integer ds T) : ds.length = 1 := by obtain ⟨_, rfl, _⟩ := h; rfl
abbrev N_is_integer : List Str := ["value"]
theorem sc_is_integer : FnScope N_is_integer ["value"] (defScope s_is_integer) := ⟨rfl, rfl, rfl, by decide +kernel, rfl, by decide +kernel, by decide +kernel⟩
set_option maxHeartbeats 2000000 in
theorem ok_is_integer {Pg : Program} {w : World} {K : Fg} {mg : Str → Option Value} {base : Heap} (C : Cs K mg) (D0 : DfX K mg "is_integer" s_is_integer ["value"])  : OkF Pg w K mg base "is_integer" 1 ["value"] (spP K c_is_integer) := by
  refine okP D0 sc_is_integer (fun ds T h => len_is_integer h) fun f cdv A outer s H E hr => ⟨_, (pss_one (ps_ret (pe_and (pe_callB call_isi (by rfl) C.f_isinstance (by decide +kernel) (pa_cons (pv 0) (pa_cons (pe_bltn (v := .ty "int") (by rfl) C.f_int (by decide +kernel) rfl) pa_nil))) (pe_one (pe_not (pe_callB call_isi (by rfl) C.f_isinstance (by decide +kernel) (pa_cons (pv 0) (pa_cons (pe_bltn (v := .ty "bool") (by rfl) C.f_bool (by decide +kernel) rfl) pa_nil)))))))), fun ds T h => ?_⟩
  obtain ⟨i, rfl, hT⟩ := h
  exact ds_retp (dp_andV (dp_isi (dp_var rfl) kit_ii) fun _ => dp_notV (dp_isi (dp_var rfl) kit_ib)) hT
def c_is_between : Call := fun ds T => ∃ v lo hi, ds = [.int v, .int lo, .int hi] ∧ T (.bool (decide (lo ≤ v) && decide (v ≤ hi)))
theorem len_is_between {ds T} (h : c_is_between ds T) : ds.length = 3 := by obtain ⟨_, _, _, rfl, _⟩ := h; rfl
abbrev N_is_between : List Str := ["value", "low", "high"]
theorem sc_is_between : FnScope N_is_between ["value", "low", "high"] (defScope s_is_between) := ⟨rfl, rfl, rfl, by decide +kernel, rfl, by decide +kernel, by decide +kernel⟩
set_option maxHeartbeats 2000000 in
theorem ok_is_between {Pg : Program} {w : World} {K : Fg} {mg : Str → Option Value} {base : Heap} (C : Cs K mg) (D0 : DfX K mg "is_between" s_is_between ["value", "low", "high"]) (h_is_integer : OkF Pg w K mg base "is_integer" 1 ["value"] (spP K c_is_integer)) : OkF Pg w K mg base "is_between" 2 ["value", "low", "high"] (spP K c_is_between) := by
  refine okP D0 sc_is_between (fun ds T h => len_is_between h) fun f cdv A outer s H E hr => ⟨_, (pss_one (ps_ret (pe_and (pe_cl h_is_integer (hr.mono (by decide)) (pa_cons (pv 0) pa_nil)) (pe_one (pe_chain op_le op_le (pv 1) (pv 0) (pv 2)))))), fun ds T h => ?_⟩
  obtain ⟨v, lo, hi, rfl, hT⟩ := h
  exact ds_retp (dp_andV (dp_call (dap_cons (dp_var rfl) dap_nil) ⟨v, rfl, rfl⟩) fun _ => dp_chain (dp_var rfl) (dp_var rfl) (r2_I0 (fun _ => .bl _) rfl) (fun _ => dp_var rfl) fun _ => r2_I0 (fun _ => .bl _) rfl) hT
def c_common : Call := fun ds T => ∃ a b : Int, ds = [.int a, .int b] ∧ T (.int ((Nat.gcd a.natAbs b.natAbs : Nat) : Int))
theorem len_common {ds T} (h : c_common ds T) : ds.length = 2 := by obtain ⟨_, _, rfl, _⟩ := h; rfl
abbrev N_common : List Str := ["one", "other"]
theorem sc_common : FnScope N_common ["one", "other"] (defScope s_common) := ⟨rfl, rfl, rfl, by decide +kernel, rfl, by decide +kernel, by decide +kernel⟩
set_option maxHeartbeats 2000000 in
theorem ok_common {Pg : Program} {w : World} {K : Fg} {mg : Str → Option Value} {base : Heap} (C : Cs K mg) (D0 : DfX K mg "common" s_common ["one", "other"])  : OkF Pg w K mg base "common" 1 ["one", "other"] (spP K c_common) := by
  refine okP D0 sc_common (fun ds T h => len_common h) fun f cdv A outer s H E hr => ⟨_, (pss_one (ps_ret (pe_callBfun cr_gcd (by rfl) C.g_gcd (pa_cons (pv 0) (pa_cons (pv 1) pa_nil))))), fun ds T h => ?_⟩
  obtain ⟨a, b, rfl, hT⟩ := h
  exact ds_retp (dp_gcd (dp_var rfl) (dp_var rfl)) hT
def c_reduced : Call := fun ds T => ∃ (t l : Int) (m : Nat), ds = [.int t, .int l] ∧ l ≠ 0 ∧ l.natAbs < 2 ^ m ∧ m ≤ 8990 ∧ T (eR (Rat.divInt t l))
theorem len_reduced {ds T} (h : c_reduced ds T) : ds.length = 2 := by obtain ⟨_, _, _, rfl, _⟩ := h; rfl
abbrev N_reduced : List Str := ["top", "low", "by"]
theorem sc_reduced : FnScope N_reduced ["top", "low"] (defScope s_reduced) := ⟨rfl, rfl, rfl, by decide +kernel, rfl, by decide +kernel, by decide +kernel⟩
set_option maxHeartbeats 2000000 in
theorem ok_reduced {Pg : Program} {w : World} {K : Fg} {mg : Str → Option Value} {base : Heap} (C : Cs K mg) (D0 : DfX K mg "reduced" s_reduced ["top", "low"]) (h_common : OkF Pg w K mg base "common" 1 ["one", "other"] (spP K c_common)) : OkF Pg w K mg base "reduced" 2 ["top", "low"] (spP K c_reduced) := by
  refine okP D0 sc_reduced (fun ds T h => len_reduced h) fun f cdv A outer s H E hr => ⟨_, (pss_cons (ps_set (i := 2) sc_reduced.nd rfl (.inl rfl) (pe_ifExp (pt_cmpR op_gt (pv 1) pe_int (nomark _)) (pe_cl h_common (hr.mono (by decide)) (pa_cons (pv 0) (pa_cons (pv 1) pa_nil))) (pe_op op_sub pe_int (pe_cl h_common (hr.mono (by decide)) (pa_cons (pv 0) (pa_cons (pv 1) pa_nil))))))
      (pss_one (ps_ret (pe_tup (pa_cons (pe_op op_fdivX (pv 0) (pv 2)) (pa_cons (pe_op op_fdivX (pv 1) (pv 2)) pa_nil)))))), fun ds T h => ?_⟩
  obtain ⟨t, l, m, rfl, hl, hb, hm, hT⟩ := h
  have hg : Nat.gcd t.natAbs l.natAbs ≠ 0 := fun z => hl (Int.natAbs_eq_zero.mp (Nat.gcd_eq_zero_iff.mp z).2)
  have hg2 : Nat.gcd t.natAbs l.natAbs < 2 ^ m := Nat.lt_of_le_of_lt (Nat.gcd_le_right _ (Int.natAbs_pos.mpr hl)) hb
  refine ds_let (dp_ite (p := 0 < l) (dtp_test (dp_gt (dp_var rfl) dp_int)) (fun _ => dp_call (dap_cons (dp_var rfl) (dap_cons (dp_var rfl) dap_nil)) ⟨t, l, rfl, rfl⟩) (fun _ => dp_sub dp_int (dp_call (dap_cons (dp_var rfl) (dap_cons (dp_var rfl) dap_nil)) ⟨t, l, rfl, rfl⟩))) ?_
  by_cases p : 0 < l
  · rw [if_pos p]
    obtain ⟨e1, e2⟩ := red_pos (t := t) p
    have hc : ∀ i : Int, CDivX i ((Nat.gcd t.natAbs l.natAbs : Nat) : Int) := fun i => cdiv (by omega) (by rw [Int.natAbs_natCast]; exact hg2) (by omega)
    refine ds_retp (dp_tup (dap_cons (dp_div (dp_var rfl) (dp_var rfl) (hc _)) (dap_cons (dp_div (dp_var rfl) (dp_var rfl) (hc _)) dap_nil))) ?_
    rw [e1, e2]; exact hT
  · rw [if_neg p]
    obtain ⟨e1, e2⟩ := red_neg (t := t) (l := l) (by omega)
    have hc : ∀ i : Int, CDivX i (0 - ((Nat.gcd t.natAbs l.natAbs : Nat) : Int)) := fun i => cdiv (by omega) (b := m) (by omega) (by omega)
    refine ds_retp (dp_tup (dap_cons (dp_div (dp_var rfl) (dp_var rfl) (hc _)) (dap_cons (dp_div (dp_var rfl) (dp_var rfl) (hc _)) dap_nil))) ?_
    rw [e1, e2]; exact hT
abbrev eP (n d : Int) : D := .tuple [.int n, .int d]
def c_is_fraction : Call := fun ds T => ∃ t w : Int, ds = [eP t w] ∧ 1 ≤ w ∧ T (.bool (decide (Nat.gcd t.natAbs w.natAbs = 1)))
theorem len_is_fraction {ds T} (h : c_is_fraction ds T) : ds.length = 1 := by obtain ⟨_, _, rfl, _⟩ := h; rfl
abbrev N_is_fraction : List Str := ["value", "part"]
theorem sc_is_fraction : FnScope N_is_fraction ["value"] (defScope s_is_fraction) := ⟨rfl, rfl, rfl, by decide +kernel, rfl, by decide +kernel, by decide +kernel⟩
set_option maxHeartbeats 2000000 in
theorem ok_is_fraction {Pg : Program} {w : World} {K : Fg} {mg : Str → Option Value} {base : Heap} (C : Cs K mg) (D0 : DfX K mg "is_fraction" s_is_fraction ["value"]) (h_is_integer : OkF Pg w K mg base "is_integer" 1 ["value"] (spP K c_is_integer)) (h_common : OkF Pg w K mg base "common" 1 ["one", "other"] (spP K c_common)) : OkF Pg w K mg base "is_fraction" 2 ["value"] (spP K c_is_fraction) := by
  refine okP D0 sc_is_fraction (fun ds T h => len_is_fraction h) fun f cdv A outer s H E hr => ⟨_, (pss_cons (ps_if (PW.pt (pw_or (pt_not (pt_val (pe_callB call_isi (by rfl) C.f_isinstance (by decide +kernel) (pa_cons (pv 0) (pa_cons (pe_bltn (v := .ty "tuple") (by rfl) C.f_tuple (by decide +kernel) rfl) pa_nil))))) (pw_or (pt_cmpR op_ne (pe_callB call_len_seq (by rfl) C.f_len (by decide +kernel) (pa_cons (pv 0) pa_nil)) pe_int (nomark _)) (pw_or1 (pt_not (pt_val (pe_callB (cr_all rfl) (by rfl) C.f_all (by decide +kernel) (pa_cons (pe_lc (own := [("part", 1)]) (g := gName 1) rfl sc_is_fraction.nd (pi_tup (pv 0)) (blkOk_by (N := N_is_fraction) (sc := defScope s_is_fraction) (by decide +kernel)) (fun _ _ _ _ _ => (pg_name (i := 1) sc_is_fraction.nd rfl (.inl rfl))) (fun _ _ _ _ _ => pts_nil) (fun _ _ _ _ _ => (pe_cl h_is_integer (hr.mono (by decide)) (pa_cons (pv 1) pa_nil)))) pa_nil))))))))
        (pss_one (ps_ret pe_bl))
        pss_nil)
      (pss_one (ps_ret (pe_and (pe_cmpR op_ge (pe_ix ix_tup (pv 0) pe_int (fun _ _ => rfl)) pe_int (nomark _)) (pe_one (pe_cmpR op_eq (pe_cl h_common (hr.mono (by decide)) (pa_cons (pe_ix ix_tup (pv 0) pe_int (fun _ _ => rfl)) (pa_cons (pe_ix ix_tup (pv 0) pe_int (fun _ _ => rfl)) pa_nil))) pe_int (nomark _))))))), fun ds T h => ?_⟩
  obtain ⟨t, w, rfl, hw, hT⟩ := h
  refine ds_when (b := false) (DTP.is (dtp_or (dtp_not (dtp_B (dp_isi (dp_var rfl) kit_tt))) fun _ => dtp_or (dtp_test (dp_neI (dp_lenT (dp_var rfl)) dp_int)) fun _ => dtp_not (dtp_B (dp_all (bs := [true, true]) (dp_lcT (ds := [.int t, .int w]) (fun d => .bool true) (by simp) (dp_var rfl) (by show 2 < sizeLine; decide) (fun d hd => ?_))))) rfl) (fun z => nomatch z) fun _ => ?_
  · have : ∃ i, d = .int i := by
      rcases List.mem_cons.mp hd with z | z
      · exact ⟨_, z⟩
      · rcases List.mem_cons.mp z with z | z
        · exact ⟨_, z⟩
        · cases z
    obtain ⟨i, rfl⟩ := this
    exact dp_call (dap_cons (dp_var rfl) dap_nil) ⟨i, rfl, rfl⟩
  · refine ds_retp (dp_andV (dp_ge (dp_ixT (dp_var rfl) dp_int) dp_int) fun _ => dp_eqI (dp_call (dap_cons (dp_ixT (dp_var rfl) dp_int) (dap_cons (dp_ixT (dp_var rfl) dp_int) dap_nil)) ⟨_, _, rfl, rfl⟩) dp_int) ?_
    rw [decide_eq_true hw, Bool.true_and, decide_eq_decide.mpr (show ((Nat.gcd t.natAbs w.natAbs : Nat) : Int) = 1 ↔ Nat.gcd t.natAbs w.natAbs = 1 by omega)]
    exact hT
theorem frac_of {q : Rat} {T : D → Prop} (hT : T (.bool true)) : c_is_fraction [eR q] T := ⟨q.num, q.den, rfl, by have := q.den_pos; omega, by
  rw [Int.natAbs_natCast, decide_eq_true q.reduced]; exact hT⟩
def c_is_told_fraction : Call := fun ds T => ∃ q : Rat, ds = [eR q] ∧ T (.bool (decide ((q.num.natAbs : Int) < 10 ^ 300) && decide ((q.den : Int) < 10 ^ 300)))
theorem len_is_told_fraction {ds T} (h : c_is_told_fraction ds T) : ds.length = 1 := by obtain ⟨_, rfl, _⟩ := h; rfl
abbrev N_is_told_fraction : List Str := ["value"]
theorem sc_is_told_fraction : FnScope N_is_told_fraction ["value"] (defScope s_is_told_fraction) := ⟨rfl, rfl, rfl, by decide +kernel, rfl, by decide +kernel, by decide +kernel⟩
set_option maxHeartbeats 2000000 in
theorem ok_is_told_fraction {Pg : Program} {w : World} {K : Fg} {mg : Str → Option Value} {base : Heap} (C : Cs K mg) (D0 : DfX K mg "is_told_fraction" s_is_told_fraction ["value"]) (h_is_fraction : OkF Pg w K mg base "is_fraction" 2 ["value"] (spP K c_is_fraction)) : OkF Pg w K mg base "is_told_fraction" 3 ["value"] (spP K c_is_told_fraction) := by
  obtain ⟨v_BEYOND, u_BEYOND, m_BEYOND, r_BEYOND, d_BEYOND⟩ := C.d_BEYOND
  refine okP D0 sc_is_told_fraction (fun ds T h => len_is_told_fraction h) fun f cdv A outer s H E hr => ⟨_, (pss_one (ps_ret (pe_and (pe_cl h_is_fraction (hr.mono (by decide)) (pa_cons (pv 0) pa_nil)) (pe_and (pe_cmpR op_lt (pe_callB call_abs (by rfl) C.f_abs (by decide +kernel) (pa_cons (pe_ix ix_tup (pv 0) pe_int (fun _ _ => rfl)) pa_nil)) (pe_glob (by rfl) m_BEYOND r_BEYOND) (nomark _)) (pe_one (pe_cmpR op_lt (pe_ix ix_tup (pv 0) pe_int (fun _ _ => rfl)) (pe_glob (by rfl) m_BEYOND r_BEYOND) (nomark _))))))), fun ds T h => ?_⟩
  obtain ⟨q, rfl, hT⟩ := h
  refine ds_retp (dp_andV (dp_call (dap_cons (dp_var rfl) dap_nil) (frac_of rfl)) fun _ => dp_andV (dp_lt (dp_abs (dp_ixT (dp_var rfl) dp_int)) (dp_c d_BEYOND)) fun _ => dp_lt (dp_ixT (dp_var rfl) dp_int) (dp_c d_BEYOND)) ?_
  rw [Bool.true_and]
  exact hT
def c_bin (g : Rat → Rat → Rat) : Call := fun ds T => ∃ (a b : Rat) (m n : Nat), ds = [eR a, eR b] ∧ SzR m a ∧ SzR n b ∧ m + n ≤ 8980 ∧ T (eR (g a b))
abbrev c_added : Call := c_bin fun a b => a + b
abbrev c_product_of : Call := c_bin fun a b => a * b
theorem len_bin {g ds T} (h : c_bin g ds T) : ds.length = 2 := by obtain ⟨_, _, _, _, rfl, _⟩ := h; rfl
theorem len_added {ds T} (h : c_added ds T) : ds.length = 2 := len_bin h
theorem len_product_of {ds T} (h : c_product_of ds T) : ds.length = 2 := len_bin h
theorem mden {a b : Rat} {m n : Nat} (h : SzR m a) (k : SzR n b) : ((a.den : Int) * (b.den : Int)) ≠ 0 ∧ ((a.den : Int) * (b.den : Int)).natAbs < 2 ^ (m + n) := ⟨by have := Int.mul_pos (den_pos' a) (den_pos' b); omega, mul_lt2 (szR_den h) (szR_den k)⟩
abbrev N_added : List Str := ["one", "other"]
theorem sc_added : FnScope N_added ["one", "other"] (defScope s_added) := ⟨rfl, rfl, rfl, by decide +kernel, rfl, by decide +kernel, by decide +kernel⟩
set_option maxHeartbeats 2000000 in
theorem ok_added {Pg : Program} {w : World} {K : Fg} {mg : Str → Option Value} {base : Heap} (C : Cs K mg) (D0 : DfX K mg "added" s_added ["one", "other"]) (h_reduced : OkF Pg w K mg base "reduced" 2 ["top", "low"] (spP K c_reduced)) : OkF Pg w K mg base "added" 3 ["one", "other"] (spP K c_added) := by
  refine okP D0 sc_added (fun ds T h => len_added h) fun f cdv A outer s H E hr => ⟨_, (pss_one (ps_ret (pe_cl h_reduced (hr.mono (by decide)) (pa_cons (pe_op op_add (pe_op op_mulW (pe_ix ix_tup (pv 0) pe_int (fun _ _ => rfl)) (pe_ix ix_tup (pv 1) pe_int (fun _ _ => rfl))) (pe_op op_mulW (pe_ix ix_tup (pv 1) pe_int (fun _ _ => rfl)) (pe_ix ix_tup (pv 0) pe_int (fun _ _ => rfl)))) (pa_cons (pe_op op_mulW (pe_ix ix_tup (pv 0) pe_int (fun _ _ => rfl)) (pe_ix ix_tup (pv 1) pe_int (fun _ _ => rfl))) pa_nil))))), fun ds T h => ?_⟩
  obtain ⟨a, b, m, n, rfl, ha, hb, hmn, hT⟩ := h
  obtain ⟨z1, z2⟩ := mden ha hb
  refine ds_retp (dp_call (dap_cons (dp_add (dp_mul (dp_ixT (dp_var rfl) dp_int) (dp_ixT (dp_var rfl) dp_int) (cmul ha.1 (szR_den hb) (by omega))) (dp_mul (dp_ixT (dp_var rfl) dp_int) (dp_ixT (dp_var rfl) dp_int) (cmul hb.1 (szR_den ha) (by omega)))) (dap_cons (dp_mul (dp_ixT (dp_var rfl) dp_int) (dp_ixT (dp_var rfl) dp_int) (cmul (szR_den ha) (szR_den hb) (by omega))) dap_nil)) ⟨_, _, m + n, rfl, z1, z2, by omega, rfl⟩) ?_
  rw [addE]; exact hT
abbrev N_product_of : List Str := ["one", "other"]
theorem sc_product_of : FnScope N_product_of ["one", "other"] (defScope s_product_of) := ⟨rfl, rfl, rfl, by decide +kernel, rfl, by decide +kernel, by decide +kernel⟩
set_option maxHeartbeats 2000000 in
theorem ok_product_of {Pg : Program} {w : World} {K : Fg} {mg : Str → Option Value} {base : Heap} (C : Cs K mg) (D0 : DfX K mg "product_of" s_product_of ["one", "other"]) (h_reduced : OkF Pg w K mg base "reduced" 2 ["top", "low"] (spP K c_reduced)) : OkF Pg w K mg base "product_of" 3 ["one", "other"] (spP K c_product_of) := by
  refine okP D0 sc_product_of (fun ds T h => len_product_of h) fun f cdv A outer s H E hr => ⟨_, (pss_one (ps_ret (pe_cl h_reduced (hr.mono (by decide)) (pa_cons (pe_op op_mulW (pe_ix ix_tup (pv 0) pe_int (fun _ _ => rfl)) (pe_ix ix_tup (pv 1) pe_int (fun _ _ => rfl))) (pa_cons (pe_op op_mulW (pe_ix ix_tup (pv 0) pe_int (fun _ _ => rfl)) (pe_ix ix_tup (pv 1) pe_int (fun _ _ => rfl))) pa_nil))))), fun ds T h => ?_⟩
  obtain ⟨a, b, m, n, rfl, ha, hb, hmn, hT⟩ := h
  obtain ⟨z1, z2⟩ := mden ha hb
  refine ds_retp (dp_call (dap_cons (dp_mul (dp_ixT (dp_var rfl) dp_int) (dp_ixT (dp_var rfl) dp_int) (cmul ha.1 hb.1 (by omega))) (dap_cons (dp_mul (dp_ixT (dp_var rfl) dp_int) (dp_ixT (dp_var rfl) dp_int) (cmul (szR_den ha) (szR_den hb) (by omega))) dap_nil)) ⟨_, _, m + n, rfl, z1, z2, by omega, rfl⟩) ?_
  rw [mulE]; exact hT

end H75
namespace H75
open PySem PySem.Spec PyProof.Rows L2 DL
theorem nlog {n k : Nat} (h : n < 2 ^ k) (hk : 0 < k) : n.log2 < k := by
  by_cases z : n = 0
  · subst z; rw [Nat.log2_zero]; exact hk
  · exact (Nat.log2_lt z).mpr h
def c_floor_root : Call := fun ds T => ∃ n : Nat, ds = [.int (n : Int)] ∧ n < 2 ^ 12900 ∧ T (.int ((Float64.isqrt n : Nat) : Int))
theorem len_floor_root {ds T} (h : c_floor_root ds T) : ds.length = 1 := by obtain ⟨_, rfl, _⟩ := h; rfl
-- not here: floor_root
theorem isqrt_le (n : Nat) : Float64.isqrt n ≤ n := by
  have := (Float64.isqrt_spec n).1
  by_cases z : Float64.isqrt n = 0
  · omega
  · exact Nat.le_trans (Nat.le_mul_of_pos_left _ (by omega)) this
def c_is_square : Call := fun ds T => ∃ n : Nat, ds = [.int (n : Int)] ∧ n < 2 ^ 12900 ∧ T (.bool (decide (Float64.isqrt n * Float64.isqrt n = n)))
theorem len_is_square {ds T} (h : c_is_square ds T) : ds.length = 1 := by obtain ⟨_, rfl, _⟩ := h; rfl
theorem nat_lt2 {n k : Nat} (h : n < 2 ^ k) : ((n : Nat) : Int).natAbs < 2 ^ k := by rw [Int.natAbs_natCast]; exact h
abbrev N_is_square : List Str := ["number"]
theorem sc_is_square : FnScope N_is_square ["number"] (defScope s_is_square) := ⟨rfl, rfl, rfl, by decide +kernel, rfl, by decide +kernel, by decide +kernel⟩
set_option maxHeartbeats 2000000 in
theorem ok_is_square {Pg : Program} {w : World} {K : Fg} {mg : Str → Option Value} {base : Heap} (C : Cs K mg) (D0 : DfX K mg "is_square" s_is_square ["number"])  : OkF Pg w K mg base "is_square" 1 ["number"] (spP K c_is_square) := by
  refine okP D0 sc_is_square (fun ds T h => len_is_square h) fun f cdv A outer s H E hr => ⟨_, (pss_one (ps_ret (pe_and (pe_cmpR op_ge (pv 0) pe_int (nomark _)) (pe_one (pe_cmpR op_eq (pe_op op_mulW (pe_callBfun cr_isqrt (by rfl) C.g_isqrt (pa_cons (pv 0) pa_nil)) (pe_callBfun cr_isqrt (by rfl) C.g_isqrt (pa_cons (pv 0) pa_nil))) (pv 0) (nomark _)))))), fun ds T h => ?_⟩
  obtain ⟨n, rfl, hn, hT⟩ := h
  have hl : ((n : Nat) : Int).toNat.log2 < 13000 := by rw [Int.toNat_natCast]; have := nlog hn (by decide); omega
  have hq : ((Float64.isqrt (((n : Nat) : Int).toNat) : Nat) : Int).natAbs < 2 ^ 12900 := by
    rw [Int.toNat_natCast]; exact nat_lt2 (Nat.lt_of_le_of_lt (isqrt_le n) hn)
  refine ds_retp (dp_andV (dp_ge (dp_var rfl) dp_int) fun _ => dp_eqI (dp_mul (dp_isqrt (dp_var rfl) (by omega) hl) (dp_isqrt (dp_var rfl) (by omega) hl) (cmul hq hq (by omega))) (dp_var rfl)) ?_
  rw [decide_eq_true (show (0 : Int) ≤ (n : Int) by omega), Bool.true_and]
  have e : decide (((Float64.isqrt (((n : Nat) : Int).toNat) : Nat) : Int) * ((Float64.isqrt (((n : Nat) : Int).toNat) : Nat) : Int) = (n : Int)) = decide (Float64.isqrt n * Float64.isqrt n = n) := by
    rw [Int.toNat_natCast]
    apply decide_eq_decide.mpr
    constructor
    · intro h; exact_mod_cast h
    · intro h; exact_mod_cast h
  rw [e]; exact hT
/-! ### cores -/
def inn (p : Nat) : Nat → Nat → Nat → Nat × Nat
  | 0, r, t => (r, t)
  | k + 1, r, t => if r % (p * p) = 0 then inn p k (r / (p * p)) (t * p) else (r, t)
def nxt (p : Nat) : Nat := if p = 2 then p + 1 else p + 2
def out : Nat → Nat → Nat → Nat → Nat → Nat × Nat × Nat × Nat
  | 0, r, c, t, p => (r, c, t, p)
  | k + 1, r, c, t, p => if p ≤ 10000 ∧ p * p * p ≤ r then
      (if (inn p 3000 r t).1 % p = 0 then out k ((inn p 3000 r t).1 / p) (c * p) (inn p 3000 r t).2 (nxt p) else out k (inn p 3000 r t).1 c (inn p 3000 r t).2 (nxt p)) else (r, c, t, p)
def coreE (x : Nat × Nat × Nat × Nat) : Option (Nat × Nat) :=
  if Float64.isqrt x.1 * Float64.isqrt x.1 = x.1 then some (x.2.1, x.2.2.1 * Float64.isqrt x.1) else if x.1 < x.2.2.2 * x.2.2.2 * x.2.2.2 then some (x.2.1 * x.1, x.2.2.1) else none
def coreT (n : Nat) : Option (Nat × Nat) := coreE (out 10001 n 1 1 2)
def encC : Option (Nat × Nat) → D
  | none => .none
  | some (c, t) => .tuple [.int (c : Int), .int (t : Int)]
def c_core_told : Call := fun ds T => ∃ n : Nat, ds = [.int (n : Int)] ∧ 1 ≤ n ∧ n < 2 ^ 2100 ∧ T (encC (coreT n))
theorem len_core_told {ds T} (h : c_core_told ds T) : ds.length = 1 := by obtain ⟨_, rfl, _⟩ := h; rfl
theorem fmod_nat (a b : Nat) : ((a : Nat) : Int).fmod ((b : Nat) : Int) = ((a % b : Nat) : Int) := by
  rw [Int.fmod_eq_emod_of_nonneg _ (by omega)]; exact (Int.natCast_emod a b).symm
theorem fdiv_nat (a b : Nat) : ((a : Nat) : Int).fdiv ((b : Nat) : Int) = ((a / b : Nat) : Int) := by
  rw [Int.fdiv_eq_ediv_of_nonneg _ (by omega)]; exact (Int.natCast_ediv a b).symm
theorem pp4 {p : Nat} (h : 2 ≤ p) : 4 ≤ p * p := Nat.mul_le_mul h h
theorem le_of_mulN {a b n : Nat} (h : a * b = n) (hb : 0 < b) : a ≤ n := by rw [← h]; exact Nat.le_mul_of_pos_right _ hb
theorem pos_of_mulN {a b n : Nat} (h : a * b = n) (hn : 0 < n) : 0 < a ∧ 0 < b := by
  constructor
  · cases a with
    | zero => rw [Nat.zero_mul] at h; omega
    | succ a => omega
  · cases b with
    | zero => rw [Nat.mul_zero] at h; omega
    | succ b => omega
theorem inn_prod (p : Nat) : ∀ (k r t : Nat), (inn p k r t).1 * ((inn p k r t).2 * (inn p k r t).2) = r * (t * t)
  | 0, r, t => rfl
  | k + 1, r, t => by
    unfold inn
    split
    · rename_i h
      rw [inn_prod p k]
      have e : r / (p * p) * (p * p) = r := Nat.div_mul_cancel (Nat.dvd_of_mod_eq_zero h)
      calc r / (p * p) * (t * p * (t * p)) = (r / (p * p) * (p * p)) * (t * t) := by grind
        _ = r * (t * t) := by rw [e]
    · rfl
theorem inn_yes {p k r t : Nat} (h : r % (p * p) = 0) : inn p (k + 1) r t = inn p k (r / (p * p)) (t * p) := by
  show (if _ then _ else _) = _
  rw [if_pos h]
abbrev N_core_told : List Str := ["number", "rest", "core", "root", "part"]
theorem sc_core_told : FnScope N_core_told ["number"] (defScope s_core_told) := ⟨rfl, rfl, rfl, by decide +kernel, rfl, by decide +kernel, by decide +kernel⟩
set_option maxHeartbeats 2000000 in
theorem ok_core_told {Pg : Program} {w : World} {K : Fg} {mg : Str → Option Value} {base : Heap} (C : Cs K mg) (D0 : DfX K mg "core_told" s_core_told ["number"]) (h_is_square : OkF Pg w K mg base "is_square" 1 ["number"] (spP K c_is_square)) : OkF Pg w K mg base "core_told" 2 ["number"] (spP K c_core_told) := by
  obtain ⟨v_MOST_PRIME, u_MOST_PRIME, m_MOST_PRIME, r_MOST_PRIME, d_MOST_PRIME⟩ := C.d_MOST_PRIME
  refine okP D0 sc_core_told (fun ds T h => len_core_told h) fun f cdv A outer s H E hr => ⟨_, (pss_cons (ps_asg (pe_tup (pa_cons (pv 0) (pa_cons pe_int (pa_cons pe_int (pa_cons pe_int pa_nil))))) (pg_tup rfl (pgs_cons (pg_name (i := 1) sc_core_told.nd rfl (.inl rfl)) (pgs_cons (pg_name (i := 2) sc_core_told.nd rfl (.inl rfl)) (pgs_cons (pg_name (i := 3) sc_core_told.nd rfl (.inl rfl)) (pgs_cons (pg_name (i := 4) sc_core_told.nd rfl (.inl rfl)) pgs_nil))))))
      (pss_cons (ps_while PassesOwn.never (PW.pt (pw_and (pt_cmpR op_le (pv 4) (pe_glob (by rfl) m_MOST_PRIME r_MOST_PRIME) (nomark _)) (pw_and1 (pt_cmpR op_le (pe_op op_mulW (pe_op op_mulW (pv 4) (pv 4)) (pv 4)) (pv 1) (nomark _)))))
        (pss_cons (ps_while PassesOwn.never (pt_cmpR op_eq (pe_op op_modN (pv 1) (pe_op op_mulW (pv 4) (pv 4))) pe_int (nomark _))
          (pss_one (ps_par (i := 1) (j := 3) rfl sc_core_told.nd rfl rfl (by decide) rfl rfl (pa_cons (pe_op op_fdivX (pv 1) (pe_op op_mulW (pv 4) (pv 4))) (pa_cons (pe_op op_mulW (pv 3) (pv 4)) pa_nil)) (by rfl))))
        (pss_cons (ps_if (pt_cmpR op_eq (pe_op op_modN (pv 1) (pv 4)) pe_int (nomark _))
          (pss_one (ps_par (i := 1) (j := 2) rfl sc_core_told.nd rfl rfl (by decide) rfl rfl (pa_cons (pe_op op_fdivX (pv 1) (pv 4)) (pa_cons (pe_op op_mulW (pv 2) (pv 4)) pa_nil)) (by rfl)))
          pss_nil)
        (pss_one (ps_set (i := 4) sc_core_told.nd rfl (.inl rfl) (pe_ifExp (pt_cmpR op_eq (pv 4) pe_int (nomark _)) (pe_op op_add (pv 4) pe_int) (pe_op op_add (pv 4) pe_int)))))))
      (pss_cons (ps_if (pt_val (pe_cl h_is_square (hr.mono (by decide)) (pa_cons (pv 1) pa_nil)))
        (pss_one (ps_ret (pe_tup (pa_cons (pv 2) (pa_cons (pe_op op_mulW (pv 3) (pe_callBfun cr_isqrt (by rfl) C.g_isqrt (pa_cons (pv 1) pa_nil))) pa_nil)))))
        pss_nil)
      (pss_one (ps_ret (pe_ifExp (pt_cmpR op_gt (pe_op op_mulW (pe_op op_mulW (pv 4) (pv 4)) (pv 4)) (pv 1) (nomark _)) (pe_tup (pa_cons (pe_op op_mulW (pv 2) (pv 1)) (pa_cons (pv 3) pa_nil))) pe_non)))))), fun ds T h => ?_⟩
  obtain ⟨n, rfl, h1, hn, hT⟩ := h
  have small : ∀ {a b : Nat}, a * b = n → a < 2 ^ 2100 := fun {a b} e => Nat.lt_of_le_of_lt (le_of_mulN e (pos_of_mulN e h1).2) hn
  refine ds_letG (dp_tup (dap_cons (dp_var rfl) (dap_cons dp_int (dap_cons dp_int (dap_cons dp_int dap_nil))))) (dg_tup (dgs_cons (dg_name (dgs_cons (dg_name (dgs_cons (dg_name (dgs_cons (dg_name (dgs_nil ?_))))))))) rfl)
  refine ds_seq (ds_while (S := Nat × Nat × Nat × Nat × Nat) (fun s => [.va (.int (n : Int)), .va (.int (s.2.1 : Int)), .va (.int (s.2.2.1 : Int)), .va (.int (s.2.2.2.1 : Int)), .va (.int (s.2.2.2.2 : Int))])
    (fun s => out s.1 s.2.1 s.2.2.1 s.2.2.2.1 s.2.2.2.2 = out 10001 n 1 1 2 ∧ s.2.1 * (s.2.2.1 * (s.2.2.2.1 * s.2.2.2.1)) = n ∧ 2 ≤ s.2.2.2.2 ∧ 10002 ≤ s.1 + s.2.2.2.2 ∧ s.2.2.2.2 ≤ 10002) (fun s => s.1) (10001, n, 1, 1, 2) rfl ⟨rfl, by simp, Nat.le_refl 2, by show 10002 ≤ 10003; decide, by show 2 ≤ 10002; decide⟩ ?_)
  rintro ⟨k, r, c, t, p⟩ ⟨ho, hp, hp2, hk, hp3⟩
  simp only at ho hp hp2 hk hp3 ⊢
  obtain ⟨r0, ct0⟩ := pos_of_mulN hp h1
  obtain ⟨c0, tt0⟩ := pos_of_mulN (rfl : c * (t * t) = _) ct0
  have rs : r < 2 ^ 2100 := small hp
  have pS : ((p : Nat) : Int).natAbs < 2 ^ 14 := nat_lt2 (by omega)
  have ppS : (((p : Nat) : Int) * ((p : Nat) : Int)).natAbs < 2 ^ 28 := mul_lt2 pS pS
  have cs : c < 2 ^ 2100 := small (a := c) (b := r * (t * t)) (by rw [← hp]; grind)
  have ts : t < 2 ^ 2100 := small (a := t) (b := r * c * t) (by rw [← hp]; grind)
  refine DT.of (b := decide (p ≤ 10000 ∧ p * p * p ≤ r)) (DTP.is (dtp_and (dtp_test (dp_le (dp_var rfl) (dp_c d_MOST_PRIME))) fun _ => dtp_test (dp_le (dp_mul (dp_mul (dp_var rfl) (dp_var rfl) (cmul pS pS (by decide))) (dp_var rfl) (cmul ppS pS (by decide))) (dp_var rfl))) ?_) ?_
  · have e1 : decide (((p : Nat) : Int) ≤ 10000) = decide (p ≤ 10000) := decide_eq_decide.mpr (by omega)
    have e2 : decide (((p : Nat) : Int) * ((p : Nat) : Int) * ((p : Nat) : Int) ≤ ((r : Nat) : Int)) = decide (p * p * p ≤ r) := decide_eq_decide.mpr (by
      constructor
      · intro h; exact_mod_cast h
      · intro h; exact_mod_cast h)
    rw [e1, e2, Bool.decide_and]
  by_cases hc : p ≤ 10000 ∧ p * p * p ≤ r
  · rw [if_pos (decide_eq_true hc)]
    obtain ⟨k, rfl⟩ : ∃ k', k = k' + 1 := ⟨k - 1, by omega⟩
    refine ds_seq (ds_while (S := Nat × Nat × Nat) (fun s => [.va (.int (n : Int)), .va (.int (s.2.1 : Int)), .va (.int (c : Int)), .va (.int (s.2.2 : Int)), .va (.int (p : Int))])
      (fun s => inn p s.1 s.2.1 s.2.2 = inn p 3000 r t ∧ s.2.1 * (s.2.2 * s.2.2) = r * (t * t) ∧ s.2.1 < 2 ^ s.1) (fun s => s.1) (3000, r, t) rfl ⟨rfl, rfl, Nat.lt_of_lt_of_le rs (Nat.pow_le_pow_right (by decide) (show 2100 ≤ 3000 by decide))⟩ ?_)
    rintro ⟨j, a, b⟩ ⟨hi, hab, ha⟩
    simp only at hi hab ha ⊢
    have ppe : (((p : Nat) : Int) * ((p : Nat) : Int)) = ((p * p : Nat) : Int) := (Int.natCast_mul p p).symm
    have pp0 := pp4 hp2
    have hab2 : a * (b * b * c) = n := by rw [← hp]; calc a * (b * b * c) = (a * (b * b)) * c := by grind
      _ = r * (t * t) * c := by rw [hab]
      _ = _ := by grind
    have a0 := (pos_of_mulN hab2 h1).1
    have as : a < 2 ^ 2100 := small hab2
    have bs : b < 2 ^ 2100 := small (a := b) (b := a * b * c) (by rw [← hab2]; grind)
    refine DT.of (b := decide (a % (p * p) = 0)) (DTP.is (dtp_test (dp_eqI (dp_mod (dp_var rfl) (dp_mul (dp_var rfl) (dp_var rfl) (cmul pS pS (by decide))) (by omega)) dp_int)) ?_) ?_
    · rw [ppe, fmod_nat]; exact decide_eq_decide.mpr (by omega)
    by_cases hd : a % (p * p) = 0
    · rw [if_pos (decide_eq_true hd)]
      obtain ⟨j, rfl⟩ : ∃ j', j = j' + 1 := ⟨j - 1, by
        cases j with
        | zero => rw [Nat.pow_zero] at ha; omega
        | succ j => rfl⟩
      refine ds_par (DA.of (dap_cons (dp_div (dp_var rfl) (dp_mul (dp_var rfl) (dp_var rfl) (cmul pS pS (by decide))) (cdiv (by omega) ppS (by decide))) (dap_cons (dp_mul (dp_var rfl) (dp_var rfl) (cmul (nat_lt2 bs) pS (by decide))) dap_nil)) ⟨_, _, rfl, ?_⟩)
      refine ⟨(j, a / (p * p), b * p), ?_, ⟨?_, ?_, ?_⟩, Nat.lt_succ_self j⟩
      · rw [ppe, fdiv_nat, ← Int.natCast_mul]; rfl
      · exact (inn_yes hd).symm.trans hi
      · show a / (p * p) * (b * p * (b * p)) = _
        have e : a / (p * p) * (p * p) = a := Nat.div_mul_cancel (Nat.dvd_of_mod_eq_zero hd)
        rw [← hab]
        calc a / (p * p) * (b * p * (b * p)) = (a / (p * p) * (p * p)) * (b * b) := by grind
          _ = _ := by rw [e]
      · show a / (p * p) < 2 ^ j
        refine Nat.div_lt_of_lt_mul ?_
        rw [Nat.pow_succ] at ha
        have : 2 * 2 ^ j ≤ p * p * 2 ^ j := Nat.mul_le_mul_right _ (by omega)
        omega
    · rw [if_neg (by rw [decide_eq_false hd]; decide)]
      have hR : inn p 3000 r t = (a, b) := by
        rw [← hi]
        cases j with
        | zero => rfl
        | succ j => unfold inn; rw [if_neg hd]
      have hnext : DTP K (tTest (tOp rEq (tVar 4) (tC (.int 2)))) [.va (.int (n : Int)), .va (.int (a : Int)), .va (.int (c : Int)), .va (.int (b : Int)), .va (.int (p : Int))] (decide (p = 2)) := DTP.is (dtp_test (dp_eqI (dp_var rfl) dp_int)) (decide_eq_decide.mpr (by omega))
      have ho2 : out (k + 1) r c t p = if a % p = 0 then out k (a / p) (c * p) b (nxt p) else out k a c b (nxt p) := by
        show (if p ≤ 10000 ∧ p * p * p ≤ r then _ else _) = _
        rw [if_pos hc, hR]
      have np2 : 2 ≤ nxt p ∧ 10002 ≤ k + nxt p ∧ nxt p ≤ 10002 := by unfold nxt; split <;> omega
      refine ds_seq (ds_ifp (b := decide (a % p = 0)) (DTP.is (dtp_test (dp_eqI (dp_mod (dp_var rfl) (dp_var rfl) (by omega)) dp_int)) (by rw [fmod_nat]; exact decide_eq_decide.mpr (by omega))) (fun z => ?_) fun z => ?_)
      · have z := of_decide_eq_true z
        rw [if_pos z] at ho2
        refine ds_par (DA.of (dap_cons (dp_div (dp_var rfl) (dp_var rfl) (cdiv (by omega) pS (by decide))) (dap_cons (dp_mul (dp_var rfl) (dp_var rfl) (cmul (nat_lt2 cs) pS (by decide))) dap_nil)) ⟨_, _, rfl, ?_⟩)
        refine ds_asg (DE.of (dp_ite (p := p = 2) (DTP.is (dtp_test (dp_eqI (dp_var rfl) dp_int)) (decide_eq_decide.mpr (by omega))) (fun _ => dp_add (dp_var rfl) dp_int) (fun _ => dp_add (dp_var rfl) dp_int)) (dg_name ?_))
        refine ⟨(k, a / p, c * p, b, nxt p), ?_, ⟨ho2.symm.trans ho, ?_, np2⟩, Nat.lt_succ_self k⟩
        · rw [fdiv_nat, ← Int.natCast_mul]
          unfold nxt
          by_cases q : p = 2
          · rw [if_pos q, if_pos q]; rfl
          · rw [if_neg q, if_neg q]; rfl
        · show a / p * (c * p * (b * b)) = n
          have e : a / p * p = a := Nat.div_mul_cancel (Nat.dvd_of_mod_eq_zero z)
          rw [← hab2]
          calc a / p * (c * p * (b * b)) = (a / p * p) * (b * b * c) := by grind
            _ = _ := by rw [e]
      · have z := of_decide_eq_false z
        rw [if_neg z] at ho2
        refine ds_next ?_
        refine ds_asg (DE.of (dp_ite (p := p = 2) (DTP.is (dtp_test (dp_eqI (dp_var rfl) dp_int)) (decide_eq_decide.mpr (by omega))) (fun _ => dp_add (dp_var rfl) dp_int) (fun _ => dp_add (dp_var rfl) dp_int)) (dg_name ?_))
        refine ⟨(k, a, c, b, nxt p), ?_, ⟨ho2.symm.trans ho, ?_, np2⟩, Nat.lt_succ_self k⟩
        · unfold nxt
          by_cases q : p = 2
          · rw [if_pos q, if_pos q]; rfl
          · rw [if_neg q, if_neg q]; rfl
        · show a * (c * (b * b)) = n
          rw [← hab2]; grind
  · rw [if_neg (by rw [decide_eq_false hc]; decide)]
    have hR : out 10001 n 1 1 2 = (r, c, t, p) := by
      rw [← ho]
      cases k with
      | zero => rfl
      | succ k => unfold out; rw [if_neg hc]
    have hl : ((r : Nat) : Int).toNat.log2 < 13000 := by rw [Int.toNat_natCast]; have := nlog rs (by decide); omega
    have hq : ((Float64.isqrt (((r : Nat) : Int).toNat) : Nat) : Int).natAbs < 2 ^ 2100 := by
      rw [Int.toNat_natCast]; exact nat_lt2 (Nat.lt_of_le_of_lt (isqrt_le r) rs)
    unfold coreT at hT
    rw [hR] at hT
    refine ds_when (b := decide (Float64.isqrt r * Float64.isqrt r = r)) (dtp_B (dp_call (dap_cons (dp_var rfl) dap_nil) ⟨r, rfl, Nat.lt_of_lt_of_le rs (Nat.pow_le_pow_right (by decide) (by decide)), rfl⟩)) (fun z => ?_) fun z => ?_
    · have z := of_decide_eq_true z
      unfold coreE at hT
      rw [if_pos z] at hT
      refine ds_retp (dp_tup (dap_cons (dp_var rfl) (dap_cons (dp_mul (dp_var rfl) (dp_isqrt (dp_var rfl) (by omega) hl) (cmul (nat_lt2 ts) hq (by decide))) dap_nil))) ?_
      rw [Int.toNat_natCast, ← Int.natCast_mul]
      exact hT
    · have z := of_decide_eq_false z
      unfold coreE at hT
      rw [if_neg z] at hT
      refine ds_ret (DE.of (dp_ite (p := r < p * p * p) (DTP.is (dtp_test (dp_gt (dp_mul (dp_mul (dp_var rfl) (dp_var rfl) (cmul pS pS (by decide))) (dp_var rfl) (cmul ppS pS (by decide))) (dp_var rfl))) ?_) (fun _ => dp_tup (dap_cons (dp_mul (dp_var rfl) (dp_var rfl) (cmul (nat_lt2 cs) (nat_lt2 rs) (by decide))) (dap_cons (dp_var rfl) dap_nil))) (fun _ => dp_non)) ?_)
      · exact decide_eq_decide.mpr (by
          constructor
          · intro h; exact_mod_cast h
          · intro h; exact_mod_cast h)
      · by_cases q : r < p * p * p
        · rw [if_pos q] at hT ⊢
          rw [← Int.natCast_mul]
          exact hT
        · rw [if_neg q] at hT ⊢
          exact hT
def isField (n : Nat) : Bool := match coreT n with
  | none => false
  | some (_, t) => decide (t = 1)
def c_is_field : Call := fun ds T => ∃ n : Nat, ds = [.int (n : Int)] ∧ 1 ≤ n ∧ n < 10 ^ 300 ∧ T (.bool (isField n))
theorem len_is_field {ds T} (h : c_is_field ds T) : ds.length = 1 := by obtain ⟨_, rfl, _⟩ := h; rfl
theorem p300 : (10 : Nat) ^ 300 < 2 ^ 1000 := by decide +kernel
abbrev N_is_field : List Str := ["value", "told"]
theorem sc_is_field : FnScope N_is_field ["value"] (defScope s_is_field) := ⟨rfl, rfl, rfl, by decide +kernel, rfl, by decide +kernel, by decide +kernel⟩
set_option maxHeartbeats 2000000 in
theorem ok_is_field {Pg : Program} {w : World} {K : Fg} {mg : Str → Option Value} {base : Heap} (C : Cs K mg) (D0 : DfX K mg "is_field" s_is_field ["value"]) (h_is_between : OkF Pg w K mg base "is_between" 2 ["value", "low", "high"] (spP K c_is_between)) (h_core_told : OkF Pg w K mg base "core_told" 2 ["number"] (spP K c_core_told)) : OkF Pg w K mg base "is_field" 3 ["value"] (spP K c_is_field) := by
  obtain ⟨v_BEYOND, u_BEYOND, m_BEYOND, r_BEYOND, d_BEYOND⟩ := C.d_BEYOND
  refine okP D0 sc_is_field (fun ds T h => len_is_field h) fun f cdv A outer s H E hr => ⟨_, (pss_cons (ps_if (pt_not (pt_val (pe_cl h_is_between (hr.mono (by decide)) (pa_cons (pv 0) (pa_cons pe_int (pa_cons (pe_op op_sub (pe_glob (by rfl) m_BEYOND r_BEYOND) pe_int) pa_nil))))))
        (pss_one (ps_ret pe_bl))
        pss_nil)
      (pss_cons (ps_set (i := 1) sc_is_field.nd rfl (.inl rfl) (pe_cl h_core_told (hr.mono (by decide)) (pa_cons (pv 0) pa_nil)))
      (pss_one (ps_ret (pe_and (pe_cmpR op_notN (pv 1) pe_non (nomark _)) (pe_one (pe_cmpR op_eq (pe_ix ix_tup (pv 1) pe_int (fun _ _ => rfl)) pe_int (nomark _)))))))), fun ds T h => ?_⟩
  obtain ⟨n, rfl, h1, hn, hT⟩ := h
  have b1 : decide ((1 : Int) ≤ (n : Int)) = true := decide_eq_true (by omega)
  have hn' : (n : Int) < 10 ^ 300 := by exact_mod_cast hn
  have b2 : decide ((n : Int) ≤ 10 ^ 300 - 1) = true := decide_eq_true (by omega)
  refine ds_when (b := false) (DTP.is (dtp_not (dtp_B (dp_call (dap_cons (dp_var rfl) (dap_cons dp_int (dap_cons (dp_sub (dp_c d_BEYOND) dp_int) dap_nil))) ⟨_, _, _, rfl, rfl⟩))) (by rw [b1, b2]; rfl)) (fun z => nomatch z) fun _ => ?_
  refine ds_let (dp_call (dap_cons (dp_var rfl) dap_nil) ⟨n, rfl, h1, Nat.lt_of_lt_of_le (Nat.lt_trans hn p300) (Nat.pow_le_pow_right (by decide) (by decide)), rfl⟩) ?_
  unfold isField at hT
  cases q : coreT n with
  | none =>
    rw [q] at hT
    refine ds_retp (dp_andV (b := true) (dp_notN (dp_var rfl)) fun z => nomatch z) hT
  | some x =>
    obtain ⟨c, t⟩ := x
    rw [q] at hT
    refine ds_retp (dp_andV (dp_notN (dp_var rfl)) fun _ => dp_eqI (dp_ixT (ds := [.int (c : Int), .int (t : Int)]) (dp_var rfl) dp_int) dp_int) ?_
    have e : decide ((t : Int) = 1) = decide (t = 1) := decide_eq_decide.mpr (by omega)
    rw [e]; exact hT
def c_check_field : Call := fun ds T => ∃ n : Nat, ds = [.int (n : Int)] ∧ 1 ≤ n ∧ n < 10 ^ 300 ∧ isField n = true ∧ T .none
theorem len_check_field {ds T} (h : c_check_field ds T) : ds.length = 1 := by obtain ⟨_, rfl, _⟩ := h; rfl
abbrev N_check_field : List Str := ["field"]
theorem sc_check_field : FnScope N_check_field ["field"] (defScope s_check_field) := ⟨rfl, rfl, rfl, by decide +kernel, rfl, by decide +kernel, by decide +kernel⟩
set_option maxHeartbeats 2000000 in
theorem ok_check_field {Pg : Program} {w : World} {K : Fg} {mg : Str → Option Value} {base : Heap} (C : Cs K mg) (D0 : DfX K mg "check_field" s_check_field ["field"]) (h_is_field : OkF Pg w K mg base "is_field" 3 ["value"] (spP K c_is_field)) : OkF Pg w K mg base "check_field" 4 ["field"] (spP K c_check_field) := by
  refine okP D0 sc_check_field (fun ds T h => len_check_field h) fun f cdv A outer s H E hr => ⟨_, (pss_one (ps_if (pt_not (pt_val (pe_cl h_is_field (hr.mono (by decide)) (pa_cons (pv 0) pa_nil))))
        (pss_one ps_never)
        pss_nil)), fun ds T h => ?_⟩
  obtain ⟨n, rfl, h1, hn, hf, hT⟩ := h
  exact ds_ifp (b := false) (DTP.is (dtp_not (dtp_B (dp_call (dap_cons (dp_var rfl) dap_nil) ⟨n, rfl, h1, hn, rfl⟩))) (by rw [hf]; rfl)) (fun z => nomatch z) fun _ => ds_next hT
theorem field_ok : ∀ n ∈ [1, 2, 3, 5, 6, 7, 10, 11, 13, 14, 15, 17, 19, 21, 22, 23, 26, 31, 61, 101], isField n = true := by decide +kernel

end H75
namespace H75
open PySem PySem.Spec PyProof.Rows L2 DL
def Told (q : Rat) : Prop := q.num.natAbs < 10 ^ 300 ∧ q.den < 10 ^ 300
theorem told_sz {q : Rat} (h : Told q) : SzR 1000 q := ⟨Nat.lt_trans h.1 p300, Nat.lt_trans h.2 p300⟩
theorem sz_told {q : Rat} {m : Nat} (h : SzR m q) (hm : m ≤ 990) : Told q := by
  have : (2 : Nat) ^ 990 < 10 ^ 300 := by decide +kernel
  have l : (2 : Nat) ^ m ≤ 2 ^ 990 := Nat.pow_le_pow_right (by decide) hm
  exact ⟨by have := h.1; omega, by have := h.2; omega⟩
theorem told_b {q : Rat} (h : Told q) : (decide ((q.num.natAbs : Int) < 10 ^ 300) && decide ((q.den : Int) < 10 ^ 300)) = true := by
  rw [Bool.and_eq_true]
  exact ⟨decide_eq_true (by exact_mod_cast h.1), decide_eq_true (by exact_mod_cast h.2)⟩
/-- a surd of the field f -/
structure Sd (f : Nat) (a b : Rat) : Prop where
  ta : Told a
  tb : Told b
  f1 : 1 ≤ f
  fb : 1 < f ∨ b = 0
def c_is_surd : Call := fun ds T => ∃ (f : Nat) (a b : Rat), ds = [.int (f : Int), eQ a b] ∧ Sd f a b ∧ T (.bool true)
theorem len_is_surd {ds T} (h : c_is_surd ds T) : ds.length = 2 := by obtain ⟨_, _, _, rfl, _⟩ := h; rfl
theorem eR0 : dat_NOTHING = eR 0 := rfl
abbrev N_is_surd : List Str := ["field", "value", "one"]
theorem sc_is_surd : FnScope N_is_surd ["field", "value"] (defScope s_is_surd) := ⟨rfl, rfl, rfl, by decide +kernel, rfl, by decide +kernel, by decide +kernel⟩
set_option maxHeartbeats 2000000 in
theorem ok_is_surd {Pg : Program} {w : World} {K : Fg} {mg : Str → Option Value} {base : Heap} (C : Cs K mg) (D0 : DfX K mg "is_surd" s_is_surd ["field", "value"]) (h_is_told_fraction : OkF Pg w K mg base "is_told_fraction" 3 ["value"] (spP K c_is_told_fraction)) : OkF Pg w K mg base "is_surd" 4 ["field", "value"] (spP K c_is_surd) := by
  obtain ⟨v_NOTHING, u_NOTHING, m_NOTHING, r_NOTHING, d_NOTHING⟩ := C.d_NOTHING
  refine okP D0 sc_is_surd (fun ds T h => len_is_surd h) fun f cdv A outer s H E hr => ⟨_, (pss_cons (ps_if (PW.pt (pw_or (pt_not (pt_val (pe_callB call_isi (by rfl) C.f_isinstance (by decide +kernel) (pa_cons (pv 1) (pa_cons (pe_bltn (v := .ty "tuple") (by rfl) C.f_tuple (by decide +kernel) rfl) pa_nil))))) (pw_or (pt_cmpR op_ne (pe_callB call_len_seq (by rfl) C.f_len (by decide +kernel) (pa_cons (pv 1) pa_nil)) pe_int (nomark _)) (pw_or1 (pt_not (pt_val (pe_callB (cr_all rfl) (by rfl) C.f_all (by decide +kernel) (pa_cons (pe_lc (own := [("one", 2)]) (g := gName 2) rfl sc_is_surd.nd (pi_tup (pv 1)) (blkOk_by (N := N_is_surd) (sc := defScope s_is_surd) (by decide +kernel)) (fun _ _ _ _ _ => (pg_name (i := 2) sc_is_surd.nd rfl (.inl rfl))) (fun _ _ _ _ _ => pts_nil) (fun _ _ _ _ _ => (pe_cl h_is_told_fraction (hr.mono (by decide)) (pa_cons (pv 2) pa_nil)))) pa_nil))))))))
        (pss_one (ps_ret pe_bl))
        pss_nil)
      (pss_one (ps_ret (pe_or (pe_cmpR op_gt (pv 0) pe_int (nomark _)) (pe_one (pe_cmpR (op_eqD hr.units) (pe_ix ix_tup (pv 1) pe_int (fun _ _ => rfl)) (pe_glob (by rfl) m_NOTHING r_NOTHING) (nomark _))))))), fun ds T h => ?_⟩
  obtain ⟨f, a, b, rfl, hs, hT⟩ := h
  refine ds_when (b := false) (DTP.is (dtp_or (dtp_not (dtp_B (dp_isi (dp_var rfl) kit_tt))) fun _ => dtp_or (dtp_test (dp_neI (dp_lenT (dp_var rfl)) dp_int)) fun _ => dtp_not (dtp_B (dp_all (bs := [true, true]) (dp_lcT (ds := [eR a, eR b]) (fun d => .bool true) (by simp) (dp_var rfl) (by show 2 < sizeLine; decide) (fun d hd => ?_))))) rfl) (fun z => nomatch z) fun _ => ?_
  · have : ∃ q, d = eR q ∧ Told q := by
      rcases List.mem_cons.mp hd with z | z
      · exact ⟨_, z, hs.ta⟩
      · rcases List.mem_cons.mp z with z | z
        · exact ⟨_, z, hs.tb⟩
        · cases z
    obtain ⟨q, rfl, hq⟩ := this
    exact DP.is (dp_call (dap_cons (dp_var rfl) dap_nil) ⟨q, rfl, rfl⟩) (by rw [told_b hq])
  · refine ds_retp (dp_orV (dp_gt (dp_var rfl) dp_int) fun _ => dp_eqD (dp_ixT (ds := [eR a, eR b]) (dp_var rfl) dp_int) (dp_c d_NOTHING) sh_eR rfl) ?_
    rw [eR0, eqv_eR]
    have e : (decide ((1 : Int) < (f : Int)) || decide (b = 0)) = true := by
      rw [Bool.or_eq_true]
      rcases hs.fb with z | z
      · exact .inl (decide_eq_true (by omega))
      · exact .inr (decide_eq_true z)
    rw [e]; exact hT
def c_check_surd : Call := fun ds T => ∃ (f : Nat) (a b : Rat), ds = [.int (f : Int), eQ a b] ∧ Sd f a b ∧ T .none
theorem len_check_surd {ds T} (h : c_check_surd ds T) : ds.length = 2 := by obtain ⟨_, _, _, rfl, _⟩ := h; rfl
abbrev N_check_surd : List Str := ["field", "value"]
theorem sc_check_surd : FnScope N_check_surd ["field", "value"] (defScope s_check_surd) := ⟨rfl, rfl, rfl, by decide +kernel, rfl, by decide +kernel, by decide +kernel⟩
set_option maxHeartbeats 2000000 in
theorem ok_check_surd {Pg : Program} {w : World} {K : Fg} {mg : Str → Option Value} {base : Heap} (C : Cs K mg) (D0 : DfX K mg "check_surd" s_check_surd ["field", "value"]) (h_is_surd : OkF Pg w K mg base "is_surd" 4 ["field", "value"] (spP K c_is_surd)) : OkF Pg w K mg base "check_surd" 5 ["field", "value"] (spP K c_check_surd) := by
  refine okP D0 sc_check_surd (fun ds T h => len_check_surd h) fun f cdv A outer s H E hr => ⟨_, (pss_one (ps_if (pt_not (pt_val (pe_cl h_is_surd (hr.mono (by decide)) (pa_cons (pv 0) (pa_cons (pv 1) pa_nil)))))
        (pss_one ps_never)
        pss_nil)), fun ds T h => ?_⟩
  obtain ⟨f, a, b, rfl, hs, hT⟩ := h
  exact ds_ifp (b := false) (DTP.is (dtp_not (dtp_B (dp_call (dap_cons (dp_var rfl) (dap_cons (dp_var rfl) dap_nil)) ⟨f, a, b, rfl, hs, rfl⟩))) rfl) (fun z => nomatch z) fun _ => ds_next hT

end H75
namespace H75
open PySem PySem.Spec PyProof.Rows L2 DL
/-! ### what every law has: pots, draws, fractions -/
def PotN (m : Nat) (cs : List D) : Prop := ∃ own seed n : Int, cs = [.int own, .int seed, .int n] ∧ 0 ≤ own ∧ 0 ≤ seed ∧ seed < 2 ^ 62 ∧ 0 ≤ n ∧ n ≤ (m : Int)
def c_law_pot : List D → (List D → Prop) → Prop := fun ds T => ∃ (ns : List Int) (p : Nat), ds = [.list (ns.map .int), .int (p : Int)] ∧ p < 100 ∧ ∀ cs, PotN 0 cs → T cs
theorem len_law_pot {ds T} (h : c_law_pot ds T) : ds.length = 2 := by obtain ⟨_, _, rfl, _⟩ := h; rfl
abbrev N_law_pot : List Str := ["script", "place", "cell", "own", "small"]
theorem sc_law_pot : FnScope N_law_pot ["script", "place"] (defScope s_law_pot) := ⟨rfl, rfl, rfl, by decide +kernel, rfl, by decide +kernel, by decide +kernel⟩
set_option maxHeartbeats 2000000 in
theorem ok_law_pot {Pg : Program} {w : World} {K : Fg} {mg : Str → Option Value} {base : Heap} (C : Cs K mg) (D0 : DfX K mg "_law_pot" s_law_pot ["script", "place"])  : OkF Pg w K mg base "_law_pot" 1 ["script", "place"] (spN K c_law_pot) := by
  refine okN D0 sc_law_pot (fun ds T h => len_law_pot h) fun f cdv A outer s H E hr => ⟨_, (pss_cons (ps_set (i := 2) sc_law_pot.nd rfl (.inl rfl) (pe_ifExp (pt_cmpR op_lt (pv 1) (pe_callB call_len_seq (by rfl) C.f_len (by decide +kernel) (pa_cons (pv 0) pa_nil)) (nomark _)) (pe_ix ix_list (pv 0) (pv 1) (fun _ _ => rfl)) (pe_op op_add (pe_op op_add (pe_op op_modN (pe_callB (cr_sum rfl) (by rfl) C.f_sum (by decide +kernel) (pa_cons (pe_slice sl_list (pv 0) po_none (po_some pe_int)) pa_nil)) pe_int) (pe_op op_mulW pe_int (pv 1))) pe_int)))
      (pss_cons (ps_set (i := 3) sc_law_pot.nd rfl (.inl rfl) (pe_op op_mulW (pe_op op_modN (pe_callTy call_int1 (by rfl) C.f_int (by decide +kernel) (pa_cons (pe_callB call_abs (by rfl) C.f_abs (by decide +kernel) (pa_cons (pv 2) pa_nil)) pa_nil)) (pe_op op_powX (pe_op op_powX pe_int pe_int) pe_int)) (pe_callTy call_int1 (by rfl) C.f_int (by decide +kernel) (pa_cons (pe_cmpR op_ge (pe_callB call_abs (by rfl) C.f_abs (by decide +kernel) (pa_cons (pv 2) pa_nil)) (pe_op op_powX pe_int pe_int) (nomark _)) pa_nil))))
      (pss_cons (ps_set (i := 4) sc_law_pot.nd rfl (.inl rfl) (pe_op op_modN (pe_callTy call_int1 (by rfl) C.f_int (by decide +kernel) (pa_cons (pv 2) pa_nil)) pe_int))
      (pss_one (ps_ret (pe_lst (pa_cons (pv 3) (pa_cons (pe_op op_modN (pe_callTy call_int1 (by rfl) C.f_int (by decide +kernel) (pa_cons (pe_op op_add (pe_op op_add (pe_op op_mulW (pv 4) pe_int) (pe_op op_mulW (pe_op op_mulW pe_int (pv 1)) (pv 1))) pe_int) pa_nil)) pe_int) (pa_cons pe_int pa_nil))))))))), fun ds T h => ?_⟩
  obtain ⟨ns, p, rfl, hp, hT⟩ := h
  have p7 : ((p : Nat) : Int).natAbs < 2 ^ 7 := nat_lt2 (by omega)
  have hcell : ∃ cell : Int, DP K (tIf (tTest (tOp rLtI (tVar 1) (tCB (rLen2 K) (tCons (tVar 0) tNil)))) (tOp (rIxL K) (tVar 0) (tVar 1)) (tOp rAddI (tOp rAddI (tOp rModI (tCB (rSum K) (tCons (tSl (rSlL K) (tVar 0) tNoPart (tPart (tC (.int 1)))) tNil)) (tC (.int 1000003))) (tOp rMulI (tC (.int 12086)) (tVar 1))) (tC (.int 14926)))) (initS N_law_pot [.list (ns.map .int), .int (p : Int)]) (.int cell) := by
    by_cases z : p < ns.length
    · refine ⟨ns[p], dp_if (b := true) (DTP.is (dtp_test (dp_lt (dp_var rfl) (dp_lenL (dp_var rfl)))) ?_) (fun _ => dp_ixL (dp_var rfl) (dp_var rfl) ?_) (fun z => nomatch z)⟩
      · rw [List.length_map]; exact decide_eq_true (by exact_mod_cast z)
      · rw [atI_pos (n := p) rfl (by rw [List.length_map]; exact z), List.getElem_map]
    · refine ⟨_, dp_if (b := false) (DTP.is (dtp_test (dp_lt (dp_var rfl) (dp_lenL (dp_var rfl)))) ?_) (fun z => nomatch z) (fun _ => dp_add (dp_add (dp_mod (dp_sum (DP.is (dp_sliceL (dp_var rfl) do_none (do_some dp_int)) (by rw [cutD_map]))) dp_int (by decide)) (dp_mul dp_int (dp_var rfl) (cmul (a := 40) (by decide) p7 (by decide)))) dp_int)⟩
      rw [List.length_map]; exact decide_eq_false (by intro w; exact z (by exact_mod_cast w))
  obtain ⟨cell, hcell⟩ := hcell
  refine ds_let hcell ?_
  have M0 : (0 : Int) < (10 ^ 60) ^ 5 := by decide
  obtain ⟨m1, m2⟩ := fmod_lt (i := (cell.natAbs : Int)) M0
  have ms : ((cell.natAbs : Int).fmod ((10 ^ 60) ^ 5)).natAbs < 2 ^ 1000 := lt2_of m1 (Int.lt_trans m2 (by decide))
  refine ds_let (dp_mul (dp_mod (dp_intI (dp_abs (dp_var rfl))) (dp_pow (dp_pow dp_int dp_int (cpow (b := 4) (by decide) (by decide) (by decide))) dp_int (cpow (b := 200) (by decide) (by decide) (by decide))) (by decide)) (dp_intB (dp_ge (dp_abs (dp_var rfl)) (dp_pow dp_int dp_int (cpow (b := 4) (by decide) (by decide) (by decide))))) (cmul (b := 1) ms (by split <;> decide) (by decide))) ?_
  obtain ⟨s1, s2⟩ := fmod_lt (i := cell) (j := 2305843009213693951) (by decide)
  have ss : (cell.fmod 2305843009213693951).natAbs < 2 ^ 61 := lt2_of s1 (Int.lt_of_lt_of_le s2 (by decide))
  refine ds_let (dp_mod (dp_intI (dp_var rfl)) dp_int (by decide)) ?_
  have kp : ∀ c : Int, c.natAbs < 2 ^ 40 → (c * (p : Int)).natAbs < 2 ^ 47 := fun c h => mul_lt2 h p7
  refine ds_retL (dn_lst (DA.of (dap_cons (dp_var rfl) (dap_cons (dp_mod (dp_intI (dp_add (dp_add (dp_mul (dp_var rfl) dp_int (cmul (b := 40) ss (by decide) (by decide))) (dp_mul (dp_mul dp_int (dp_var rfl) (cmul (a := 40) (by decide) p7 (by decide))) (dp_var rfl) (cmul (kp _ (by decide)) p7 (by decide)))) dp_int)) dp_int (by decide)) (dap_cons dp_int dap_nil))) ⟨by show 3 ≤ sizeLine; decide, hT _ ⟨_, _, _, rfl, ?_, ?_, ?_, by decide, by decide⟩⟩))
  · exact Int.mul_nonneg m1 (by split <;> decide)
  · exact (fmod_lt (by decide)).1
  · exact Int.lt_trans (fmod_lt (by decide)).2 (by decide)
def c_law_take : CallC := fun cs ds T => ∃ (m : Nat) (u : Int), ds = [.int u] ∧ 1 ≤ u ∧ u < 2 ^ 1000 ∧ m < 1000000 ∧ PotN m cs ∧ ∀ k es, 0 ≤ k → k < u → PotN (m + 1) es → T (.int k) es
theorem len_law_take {cs ds T} (h : c_law_take cs ds T) : ds.length + 1 = 2 := by obtain ⟨_, _, rfl, _⟩ := h; rfl
abbrev N_law_take : List Str := ["pot", "upto", "digit", "prime", "blend"]
theorem sc_law_take : FnScope N_law_take ["pot", "upto"] (defScope s_law_take) := ⟨rfl, rfl, rfl, by decide +kernel, rfl, by decide +kernel, by decide +kernel⟩
set_option maxHeartbeats 2000000 in
theorem ok_law_take {Pg : Program} {w : World} {K : Fg} {mg : Str → Option Value} {base : Heap} (C : Cs K mg) (D0 : DfX K mg "_law_take" s_law_take ["pot", "upto"])  : OkF Pg w K mg base "_law_take" 1 ["pot", "upto"] (spC K c_law_take) := by
  refine okC D0 sc_law_take (fun cs ds T h => len_law_take h) fun f cdv A outer s H E hr => ⟨_, (pss_cons (ps_if (pt_cmpR op_gt (pe_ix ix_list (pv 0) pe_int (fun _ _ => rfl)) pe_int (nomark _))
        (pss_cons (ps_set (i := 2) sc_law_take.nd rfl (.inl rfl) (pe_op op_modN (pe_callTy call_int1 (by rfl) C.f_int (by decide +kernel) (pa_cons (pe_ix ix_list (pv 0) pe_int (fun _ _ => rfl)) pa_nil)) (pv 1)))
        (pss_cons (ps_asg (pe_op op_fdivX (pe_ix ix_list (pv 0) pe_int (fun _ _ => rfl)) (pv 1)) (pg_sub (pv 0) pe_int set_list))
        (pss_one (ps_ret (pv 2)))))
        pss_nil)
      (pss_cons (ps_asg (pe_op op_add (pe_ix ix_list (pv 0) pe_int (fun _ _ => rfl)) pe_int) (pg_sub (pv 0) pe_int set_list))
      (pss_cons (ps_set (i := 3) sc_law_take.nd rfl (.inl rfl) (pe_ix ix_list (pe_lst (pa_cons pe_int (pa_cons pe_int (pa_cons pe_int (pa_cons pe_int (pa_cons pe_int pa_nil)))))) (pe_op op_modN (pe_callTy call_int1 (by rfl) C.f_int (by decide +kernel) (pa_cons (pe_ix ix_list (pv 0) pe_int (fun _ _ => rfl)) pa_nil)) pe_int) (fun _ _ => rfl)))
      (pss_cons (ps_set (i := 4) sc_law_take.nd rfl (.inl rfl) (pe_op op_modN (pe_callTy call_int1 (by rfl) C.f_int (by decide +kernel) (pa_cons (pe_op op_powX (pe_callTy call_int1 (by rfl) C.f_int (by decide +kernel) (pa_cons (pe_op op_add (pe_op op_add (pe_ix ix_list (pv 0) pe_int (fun _ _ => rfl)) (pe_op op_mulW (pe_op op_mulW pe_int (pe_ix ix_list (pv 0) pe_int (fun _ _ => rfl))) (pe_ix ix_list (pv 0) pe_int (fun _ _ => rfl)))) pe_int) pa_nil)) pe_int) pa_nil)) (pv 3)))
      (pss_cons (ps_set (i := 4) sc_law_take.nd rfl (.inl rfl) (pe_op op_modN (pe_callTy call_int1 (by rfl) C.f_int (by decide +kernel) (pa_cons (pe_op op_mulW (pv 4) (pe_op op_add (pe_op op_modN (pe_callTy call_int1 (by rfl) C.f_int (by decide +kernel) (pa_cons (pv 4) pa_nil)) pe_int) (pe_op op_mulW pe_int (pe_ix ix_list (pv 0) pe_int (fun _ _ => rfl))))) pa_nil)) pe_int))
      (pss_one (ps_ret (pe_op op_modN (pe_callTy call_int1 (by rfl) C.f_int (by decide +kernel) (pa_cons (pe_op op_fdivX (pv 4) pe_int) pa_nil)) (pv 1))))))))), fun p cs ds T h => ?_⟩
  obtain ⟨m, u, rfl, hu, hu2, hm, ⟨own, seed, n, rfl, o0, s0, s1, n0, n1⟩, hT⟩ := h
  have us : u.natAbs < 2 ^ 1000 := lt2_of (by omega) hu2
  have u0 : u ≠ 0 := by omega
  refine ds_whenq (p := 0 < own) (dtp_test (dp_gt (dp_cix rfl) dp_int)) (fun z => ?_) fun z => ?_
  · refine ds_let (dp_mod (dp_intI (dp_cix rfl)) (dp_var rfl) u0) ?_
    refine ds_seq (ds_setC rfl (dp_div (dp_cix rfl) (dp_var rfl) (cdiv u0 us (by decide))) dp_int rfl ?_)
    refine ds_retp (dp_var rfl) ⟨_, rfl, ?_⟩
    obtain ⟨f1, f2⟩ := fmod_lt (i := own) (j := u) (by omega)
    exact hT _ _ f1 f2 ⟨own.fdiv u, seed, n, rfl, Int.fdiv_nonneg o0 (by omega), s0, s1, n0, by omega⟩
  · refine ds_seq (ds_setC rfl (dp_add (dp_cix rfl) dp_int) dp_int rfl ?_)
    obtain ⟨r1, r2⟩ := fmod_lt (i := n + 1) (j := 5) (by decide)
    have ns : (n + 1).natAbs < 2 ^ 20 := lt2_of (by omega) (by omega)
    have ss : seed.natAbs < 2 ^ 62 := lt2_of s0 s1
    obtain ⟨pr, p1, p2, hpr⟩ := dp_pick (K := K) (ns := [2147483647, 2147483629, 2147483587, 2147483579, 2147483563]) (lo := 0) (hi := 2 ^ 31) (ρ := [.ce p [.int own, .int seed, .int (n + 1)], .va (.int u), .no, .no, .no]) (by decide) (dp_lst (dap_cons dp_int (dap_cons dp_int (dap_cons dp_int (dap_cons dp_int (dap_cons dp_int dap_nil)))))) (dp_mod (dp_intI (dp_cix (i := 0) (k := 2) rfl)) (dp_int (i := 5)) (by decide)) r1 r2
    refine ds_let hpr ?_
    have knn : ∀ c : Int, c.natAbs < 2 ^ 30 → (c * (n + 1)).natAbs < 2 ^ 50 := fun c h => mul_lt2 h ns
    have kn2 : ∀ c : Int, c.natAbs < 2 ^ 30 → (c * (n + 1) * (n + 1)).natAbs < 2 ^ 70 := fun c h => mul_lt2 (knn c h) ns
    have base : ∀ c e : Int, c.natAbs < 2 ^ 30 → e.natAbs < 2 ^ 30 → (seed + c * (n + 1) * (n + 1) + e).natAbs < 2 ^ 72 := fun c e h h2 => add_lt2 (add_lt2 (lt2_mono ss (by decide)) (kn2 c h)) (lt2_mono h2 (by decide))
    refine ds_let (dp_mod (dp_intI (dp_pow (dp_intI (dp_add (dp_add (dp_cix rfl) (dp_mul (dp_mul dp_int (dp_cix rfl) (cmul (a := 30) (by decide) ns (by decide))) (dp_cix rfl) (cmul (knn _ (by decide)) ns (by decide)))) dp_int)) dp_int (cpow (by decide) (base _ _ (by decide) (by decide)) (by decide)))) (dp_var rfl) (by omega)) ?_
    obtain ⟨b1, b2⟩ := fmod_lt (i := (seed + 112828 * (n + 1) * (n + 1) + 941) ^ (3 : Int).toNat) (j := pr) p1
    have bs : ((seed + 112828 * (n + 1) * (n + 1) + 941) ^ (3 : Int).toNat |>.fmod pr).natAbs < 2 ^ 31 := lt2_of b1 (Int.lt_trans b2 p2)
    have dsz : ∀ (x c e : Int), 0 < e → e < 2 ^ 30 → c.natAbs < 2 ^ 30 → (x.fmod e + c * (n + 1)).natAbs < 2 ^ 51 := fun x c e h1 h2 h3 => add_lt2 (lt2_mono (lt2_of (fmod_lt h1).1 (Int.lt_trans (fmod_lt h1).2 h2)) (by decide)) (knn c h3)
    refine ds_let (dp_mod (dp_intI (dp_mul (dp_var rfl) (dp_add (dp_mod (dp_intI (dp_var rfl)) dp_int (by decide)) (dp_mul dp_int (dp_cix rfl) (cmul (a := 30) (by decide) ns (by decide)))) (cmul bs (dsz _ _ _ (by decide) (by decide) (by decide)) (by decide)))) dp_int (by decide)) ?_
    refine ds_retp (dp_mod (dp_intI (dp_div (dp_var rfl) dp_int (cdiv (b := 40) (by decide) (by decide) (by decide)))) (dp_var rfl) u0) ⟨_, rfl, ?_⟩
    obtain ⟨f1, f2⟩ := fmod_lt (i := _) (j := u) (by omega)
    exact hT _ _ f1 f2 ⟨own, seed, n + 1, rfl, o0, s0, s1, by omega, by omega⟩
def c_law_of : CallC := fun cs ds T => ∃ (m : Nat) (xs : List D), ds = [.list xs] ∧ 0 < xs.length ∧ xs.length < 1000000 ∧ m < 1000000 ∧ PotN m cs ∧ ∀ x es, x ∈ xs → PotN (m + 1) es → T x es
theorem len_law_of {cs ds T} (h : c_law_of cs ds T) : ds.length + 1 = 2 := by obtain ⟨_, _, rfl, _⟩ := h; rfl
abbrev N_law_of : List Str := ["pot", "some"]
theorem sc_law_of : FnScope N_law_of ["pot", "some"] (defScope s_law_of) := ⟨rfl, rfl, rfl, by decide +kernel, rfl, by decide +kernel, by decide +kernel⟩
set_option maxHeartbeats 2000000 in
theorem ok_law_of {Pg : Program} {w : World} {K : Fg} {mg : Str → Option Value} {base : Heap} (C : Cs K mg) (D0 : DfX K mg "_law_of" s_law_of ["pot", "some"]) (h__law_take : OkF Pg w K mg base "_law_take" 1 ["pot", "upto"] (spC K c_law_take)) : OkF Pg w K mg base "_law_of" 2 ["pot", "some"] (spC K c_law_of) := by
  refine okC D0 sc_law_of (fun cs ds T h => len_law_of h) fun f cdv A outer s H E hr => ⟨_, (pss_one (ps_ret (pe_ix ix_list (pv 1) (pe_cl h__law_take (hr.mono (by decide)) (pa_cons (pv 0) (pa_cons (pe_callB call_len_seq (by rfl) C.f_len (by decide +kernel) (pa_cons (pv 1) pa_nil)) pa_nil))) (fun _ _ => rfl)))), fun p cs ds T h => ?_⟩
  obtain ⟨m, xs, rfl, h0, h1, hm, hp, hT⟩ := h
  refine ds_ret (de_op (de_var rfl (de_callC rfl (DA.of (dap_cons (dp_lenL (dp_var rfl)) dap_nil) ⟨cs, rfl, m, _, rfl, by omega, ?_, hm, hp, fun k es k0 k1 hes => ?_⟩))))
  · exact Int.lt_trans (show (xs.length : Int) < 1000000 by omega) (by decide)
  · have hk : k.toNat < xs.length := by omega
    exact r2_ixL (atI_pos (n := k.toNat) (by omega) hk) ⟨es, rfl, hT _ es (List.getElem_mem hk) hes⟩
def c_law_cells : Call := fun ds T => ∃ (xs : List D) (m : Nat), ds = [.list xs, .int (m : Int)] ∧ m ≤ 100 ∧ ∀ n : Nat, n ≤ 100 → T (.list ((List.range n).map fun i : Nat => .int (i : Int)))
theorem len_law_cells {ds T} (h : c_law_cells ds T) : ds.length = 2 := by obtain ⟨_, _, rfl, _⟩ := h; rfl
abbrev N_law_cells : List Str := ["script", "most"]
theorem sc_law_cells : FnScope N_law_cells ["script", "most"] (defScope s_law_cells) := ⟨rfl, rfl, rfl, by decide +kernel, rfl, by decide +kernel, by decide +kernel⟩
set_option maxHeartbeats 2000000 in
theorem ok_law_cells {Pg : Program} {w : World} {K : Fg} {mg : Str → Option Value} {base : Heap} (C : Cs K mg) (D0 : DfX K mg "_law_cells" s_law_cells ["script", "most"])  : OkF Pg w K mg base "_law_cells" 1 ["script", "most"] (spP K c_law_cells) := by
  refine okP D0 sc_law_cells (fun ds T h => len_law_cells h) fun f cdv A outer s H E hr => ⟨_, (pss_one (ps_ret (pe_listRg rfl (by rfl) C.f_list (prg_1 (by rfl) C.f_range (pe_callB (call_max2 rfl) (by rfl) C.f_max (by decide +kernel) (pa_cons pe_int (pa_cons (pe_callB (call_min2 rfl) (by rfl) C.f_min (by decide +kernel) (pa_cons (pv 1) (pa_cons (pe_callB call_len_seq (by rfl) C.f_len (by decide +kernel) (pa_cons (pv 0) pa_nil)) pa_nil))) pa_nil))))))), fun ds T h => ?_⟩
  obtain ⟨xs, m, rfl, hm, hT⟩ := h
  refine ds_retp (dp_listRg1 (dp_max2 dp_int (dp_min2 (dp_var rfl) (dp_lenL (dp_var rfl)))) ?_) (hT _ ?_)
  · have : ∀ a : Int, a ≤ 100 → (-1000 ≤ a) → RgOk 0 a := fun a h1 h2 => ⟨by decide, by decide, by omega, by omega, by omega⟩
    apply this <;> (split <;> split) <;> omega
  · split <;> split <;> omega
/-- the greatest common divisor by hand -/
theorem euc_step {x y : Nat} (h : y ≤ x) (hy : 0 < y) : 2 * (y * (x % y)) ≤ x * y := by
  have h1 := Nat.mod_lt x hy
  have h2 : x % y ≤ x - y := by rw [Nat.mod_eq_sub_mod h]; exact Nat.mod_le _ _
  have h3 : 2 * (x % y) ≤ x := by omega
  calc 2 * (y * (x % y)) = y * (2 * (x % y)) := by grind
    _ ≤ y * x := Nat.mul_le_mul_left _ h3
    _ = x * y := Nat.mul_comm _ _
def c_law_reduced : Call := fun ds T => ∃ (t l : Int) (m : Nat), ds = [.int t, .int l] ∧ l ≠ 0 ∧ t.natAbs < 2 ^ m ∧ l.natAbs < 2 ^ m ∧ m ≤ 4400 ∧ T (eR (Rat.divInt t l))
theorem len_law_reduced {ds T} (h : c_law_reduced ds T) : ds.length = 2 := by obtain ⟨_, _, _, rfl, _⟩ := h; rfl
abbrev N_law_reduced : List Str := ["top", "low", "one", "other", "lap", "factor"]
theorem sc_law_reduced : FnScope N_law_reduced ["top", "low"] (defScope s_law_reduced) := ⟨rfl, rfl, rfl, by decide +kernel, rfl, by decide +kernel, by decide +kernel⟩
set_option maxHeartbeats 2000000 in
theorem ok_law_reduced {Pg : Program} {w : World} {K : Fg} {mg : Str → Option Value} {base : Heap} (C : Cs K mg) (D0 : DfX K mg "_law_reduced" s_law_reduced ["top", "low"])  : OkF Pg w K mg base "_law_reduced" 1 ["top", "low"] (spP K c_law_reduced) := by
  refine okP D0 sc_law_reduced (fun ds T h => len_law_reduced h) fun f cdv A outer s H E hr => ⟨_, (pss_cons (ps_par (i := 2) (j := 3) rfl sc_law_reduced.nd rfl rfl (by decide) rfl rfl (pa_cons (pe_callB call_abs (by rfl) C.f_abs (by decide +kernel) (pa_cons (pv 0) pa_nil)) (pa_cons (pe_callB call_abs (by rfl) C.f_abs (by decide +kernel) (pa_cons (pv 1) pa_nil)) pa_nil)) (by rfl))
      (pss_cons (ps_for PassesOwn.never rfl (pi_range1 (by rfl) C.f_range (pa_cons pe_int pa_nil)) (pg_name (i := 4) sc_law_reduced.nd rfl (.inl rfl))
        (pss_cons (ps_if (pt_cmpR op_eq (pv 3) pe_int (nomark _))
          (pss_one ps_break)
          pss_nil)
        (pss_one (ps_par (i := 2) (j := 3) rfl sc_law_reduced.nd rfl rfl (by decide) rfl rfl (pa_cons (pv 3) (pa_cons (pe_op op_modN (pv 2) (pv 3)) pa_nil)) (by rfl)))))
      (pss_cons (ps_set (i := 5) sc_law_reduced.nd rfl (.inl rfl) (pe_ifExp (pt_cmpR op_gt (pv 1) pe_int (nomark _)) (pv 2) (pe_un un_neg (pv 2))))
      (pss_one (ps_ret (pe_tup (pa_cons (pe_callTy call_int1 (by rfl) C.f_int (by decide +kernel) (pa_cons (pe_op op_fdivX (pv 0) (pv 5)) pa_nil)) (pa_cons (pe_callTy call_int1 (by rfl) C.f_int (by decide +kernel) (pa_cons (pe_op op_fdivX (pv 1) (pv 5)) pa_nil)) pa_nil)))))))), fun ds T h => ?_⟩
  obtain ⟨t, l, m, rfl, hl, ht, hb, hm, hT⟩ := h
  have hg : Nat.gcd t.natAbs l.natAbs ≠ 0 := fun z => hl (Int.natAbs_eq_zero.mp (Nat.gcd_eq_zero_iff.mp z).2)
  have hg2 : Nat.gcd t.natAbs l.natAbs < 2 ^ m := Nat.lt_of_le_of_lt (Nat.gcd_le_right _ (Int.natAbs_pos.mpr hl)) hb
  have hTL : t.natAbs * l.natAbs < 2 ^ (m + m) := nat_two_mul ht hb
  refine ds_parp (dap_cons (dp_abs (dp_var rfl)) (dap_cons (dp_abs (dp_var rfl)) dap_nil)) ?_
  refine ds_forq (fun ρ' => ∃ (s s2 : Sl) (y : Int), ρ' = [.va (.int t), .va (.int l), .va (.int ((Nat.gcd t.natAbs l.natAbs : Nat) : Int)), .va (.int y), s, s2]) (ds_for (fun _ i ρ' => ∃ (s : Sl) (x y : Nat), ρ' = [.va (.int t), .va (.int l), .va (.int (x : Int)), .va (.int (y : Int)), s, .no] ∧ Nat.gcd x y = Nat.gcd t.natAbs l.natAbs ∧ (0 < i → y < x ∧ 2 ^ (i - 1) * (x * y) ≤ t.natAbs * l.natAbs) ∧ (i = 0 → x = t.natAbs ∧ y = l.natAbs)) (di_rng1 (DA.of (dap_cons dp_int dap_nil) ⟨_, rfl, by decide, by decide, ⟨.no, t.natAbs, l.natAbs, rfl, rfl, fun z => (Nat.lt_irrefl 0 z).elim, fun _ => ⟨rfl, rfl⟩⟩, ?_, ?_⟩))) ?_
  · rintro i d ρ2 hd ⟨s, x, y, rfl, e1, e2, e3⟩
    refine dg_name ?_
    refine ds_whenq (p := y = 0) (DTP.is (dtp_test (dp_eqI (dp_var rfl) dp_int)) (decide_eq_decide.mpr (by omega))) (fun z => ?_) fun z => ?_
    · subst z
      refine ds_brk ⟨.va d, .no, ((0 : Nat) : Int), ?_⟩
      rw [Nat.gcd_zero_right] at e1
      rw [← e1]; rfl
    · refine ds_par (DA.of (dap_cons (dp_var rfl) (dap_cons (dp_mod (dp_var rfl) (dp_var rfl) (by omega)) dap_nil)) ⟨_, _, rfl, ?_⟩)
      refine ⟨_, y, x % y, by rw [fmod_nat]; rfl, ?_, fun _ => ⟨Nat.mod_lt _ (by omega), ?_⟩, fun w => nomatch w⟩
      · rw [← e1, Nat.gcd_comm x y, Nat.gcd_rec y x, Nat.gcd_comm]
      · cases i with
        | zero =>
          obtain ⟨rfl, rfl⟩ := e3 rfl
          have h1 := Nat.mod_le t.natAbs l.natAbs
          calc 2 ^ 0 * (l.natAbs * (t.natAbs % l.natAbs)) = l.natAbs * (t.natAbs % l.natAbs) := by rw [Nat.pow_zero, Nat.one_mul]
            _ ≤ l.natAbs * t.natAbs := Nat.mul_le_mul_left _ h1
            _ = _ := Nat.mul_comm _ _
        | succ i =>
          obtain ⟨h1, h2⟩ := e2 (Nat.succ_pos i)
          have h3 := euc_step (Nat.le_of_lt h1) (Nat.pos_of_ne_zero z)
          refine Nat.le_trans ?_ h2
          show 2 ^ (i + 1) * (y * (x % y)) ≤ 2 ^ i * (x * y)
          rw [Nat.pow_succ]
          calc 2 ^ i * 2 * (y * (x % y)) = 2 ^ i * (2 * (y * (x % y))) := by grind
            _ ≤ _ := Nat.mul_le_mul_left _ h3
  · rintro ρ2 ⟨s, x, y, rfl, e1, e2, e3⟩
    rw [List.length_map, List.length_range] at e2
    obtain ⟨h1, h2⟩ := e2 (by decide)
    have h4 : 2 ^ (m + m) ≤ 2 ^ ((9000 : Int).toNat - 1) := Nat.pow_le_pow_right (by decide) (by show m + m ≤ 8999; omega)
    have z : x * y = 0 := by
      apply Classical.byContradiction
      intro w
      have := Nat.le_mul_of_pos_right (2 ^ ((9000 : Int).toNat - 1)) (Nat.pos_of_ne_zero w)
      omega
    have y0 : y = 0 := by
      rcases Nat.mul_eq_zero.mp z with w | w <;> omega
    subst y0
    refine ⟨s, .no, ((0 : Nat) : Int), ?_⟩
    rw [Nat.gcd_zero_right] at e1
    rw [← e1]
  · rintro ρ' ⟨s, s2, y, rfl⟩
    refine ds_let (dp_ite (p := 0 < l) (dtp_test (dp_gt (dp_var rfl) dp_int)) (fun _ => dp_var rfl) (fun _ => dp_neg (dp_var rfl))) ?_
    by_cases p : 0 < l
    · rw [if_pos p]
      obtain ⟨e1, e2⟩ := red_pos (t := t) p
      have hc : ∀ i : Int, CDivX i ((Nat.gcd t.natAbs l.natAbs : Nat) : Int) := fun i => cdiv (by omega) (nat_lt2 hg2) (by omega)
      refine ds_retp (dp_tup (dap_cons (dp_intI (dp_div (dp_var rfl) (dp_var rfl) (hc _))) (dap_cons (dp_intI (dp_div (dp_var rfl) (dp_var rfl) (hc _))) dap_nil))) ?_
      rw [e1, e2]; exact hT
    · rw [if_neg p]
      obtain ⟨e1, e2⟩ := red_neg (t := t) (l := l) (by omega)
      rw [Int.zero_sub] at e1 e2
      have hc : ∀ i : Int, CDivX i (-((Nat.gcd t.natAbs l.natAbs : Nat) : Int)) := fun i => cdiv (b := m) (by omega) (by omega) (by omega)
      refine ds_retp (dp_tup (dap_cons (dp_intI (dp_div (dp_var rfl) (dp_var rfl) (hc _))) (dap_cons (dp_intI (dp_div (dp_var rfl) (dp_var rfl) (hc _))) dap_nil))) ?_
      rw [e1, e2]; exact hT
def c_law_sum : Call := fun ds T => ∃ (a b : Rat) (m n : Nat), ds = [eR a, eR b] ∧ SzR m a ∧ SzR n b ∧ m + n ≤ 4300 ∧ T (eR (a + b))
def c_law_times : Call := fun ds T => ∃ (a b : Rat) (m n : Nat), ds = [eR a, eR b] ∧ SzR m a ∧ SzR n b ∧ m + n ≤ 4300 ∧ T (eR (a * b))
def c_law_parted : Call := fun ds T => ∃ (a b : Rat) (m n : Nat), ds = [eR a, eR b] ∧ b ≠ 0 ∧ SzR m a ∧ SzR n b ∧ m + n ≤ 4300 ∧ T (eR (a / b))
def c_law_minus : Call := fun ds T => ∃ (a : Rat), ds = [eR a] ∧ T (eR (-a))
theorem len_law_sum {ds T} (h : c_law_sum ds T) : ds.length = 2 := by obtain ⟨_, _, _, _, rfl, _⟩ := h; rfl
theorem len_law_times {ds T} (h : c_law_times ds T) : ds.length = 2 := by obtain ⟨_, _, _, _, rfl, _⟩ := h; rfl
theorem len_law_parted {ds T} (h : c_law_parted ds T) : ds.length = 2 := by obtain ⟨_, _, _, _, rfl, _⟩ := h; rfl
theorem len_law_minus {ds T} (h : c_law_minus ds T) : ds.length = 1 := by obtain ⟨_, rfl, _⟩ := h; rfl
-- not here: _law_sum
-- not here: _law_times
abbrev N_law_minus : List Str := ["one"]
theorem sc_law_minus : FnScope N_law_minus ["one"] (defScope s_law_minus) := ⟨rfl, rfl, rfl, by decide +kernel, rfl, by decide +kernel, by decide +kernel⟩
set_option maxHeartbeats 2000000 in
theorem ok_law_minus {Pg : Program} {w : World} {K : Fg} {mg : Str → Option Value} {base : Heap} (C : Cs K mg) (D0 : DfX K mg "_law_minus" s_law_minus ["one"])  : OkF Pg w K mg base "_law_minus" 1 ["one"] (spP K c_law_minus) := by
  refine okP D0 sc_law_minus (fun ds T h => len_law_minus h) fun f cdv A outer s H E hr => ⟨_, (pss_one (ps_ret (pe_tup (pa_cons (pe_un un_neg (pe_ix ix_tup (pv 0) pe_int (fun _ _ => rfl))) (pa_cons (pe_ix ix_tup (pv 0) pe_int (fun _ _ => rfl)) pa_nil))))), fun ds T h => ?_⟩
  obtain ⟨a, rfl, hT⟩ := h
  refine ds_retp (dp_tup (dap_cons (dp_neg (dp_ixT (dp_var rfl) dp_int)) (dap_cons (dp_ixT (dp_var rfl) dp_int) dap_nil))) ?_
  exact hT
-- not here: _law_parted
theorem isqrt_uniq {n r : Nat} (h1 : r * r ≤ n) (h2 : n < (r + 1) * (r + 1)) : Float64.isqrt n = r := by
  obtain ⟨s1, s2⟩ := Float64.isqrt_spec n
  have a : ¬ Float64.isqrt n < r := fun z => by
    have := Nat.mul_le_mul (Nat.succ_le_of_lt z) (Nat.succ_le_of_lt z)
    simp only [Nat.succ_eq_add_one] at this
    omega
  have b : ¬ r < Float64.isqrt n := fun z => by
    have := Nat.mul_le_mul (Nat.succ_le_of_lt z) (Nat.succ_le_of_lt z)
    simp only [Nat.succ_eq_add_one] at this
    omega
  omega
def c_law_floor_root : Call := fun ds T => ∃ n : Nat, ds = [.int (n : Int)] ∧ n < 2 ^ 400 ∧ T (.int ((Float64.isqrt n : Nat) : Int))
theorem len_law_floor_root {ds T} (h : c_law_floor_root ds T) : ds.length = 1 := by obtain ⟨_, rfl, _⟩ := h; rfl
-- not here: _law_floor_root
end H75
namespace H75
open PySem PySem.Spec PyProof.Rows L2 DL
open TL
open PySem.NumText (AllDigits digitsVal)
theorem minus_tl : tl ("-" : Str) = [45] := by decide
theorem zero_tl : tl ("0" : Str) = [48] := by decide
theorem tl_take1 (x : Str) : tl (cutS x none (some 1)) = (tl x).take 1 := tl_take x 1
theorem tl_drop1 (x : Str) : tl (cutS x (some 1) none) = (tl x).drop 1 := tl_drop x 1
/-- a text without its minus -/
def bareS (x : Str) : Str := if (tl x).take 1 = [45] then cutS x (some 1) none else x
theorem ite_bare (x : Str) : (if (tl x).take 1 = [45] then PyData.str (cutS x (some 1) none) else PyData.str x) = PyData.str (bareS x) := by
  unfold bareS
  split <;> rfl
theorem tl_bareS (x : Str) : tl (bareS x) = bareL (tl x) := by
  unfold bareS bareL
  split
  · exact tl_drop x 1
  · rfl
theorem bareS_len (x : Str) : (bareS x).length ≤ x.length := by
  unfold bareS
  split
  · exact cutS_length _ _ _
  · exact Nat.le_refl _
def c_read_integer : Call := fun ds T => ∃ x : Str, ds = [.str x] ∧ x.length ≤ 100000 ∧ T (oI (rdI (tl x)))
theorem len_read_integer {ds T} (h : c_read_integer ds T) : ds.length = 1 := by obtain ⟨_, rfl, _⟩ := h; rfl
abbrev N_read_integer : List Str := ["text", "figures", "sign"]
theorem sc_read_integer : FnScope N_read_integer ["text"] (defScope s_read_integer) := ⟨rfl, rfl, rfl, by decide +kernel, rfl, by decide +kernel, by decide +kernel⟩
set_option maxHeartbeats 2000000 in
theorem ok_read_integer {Pg : Program} {w : World} {K : Fg} {mg : Str → Option Value} {base : Heap} (C : Cs K mg) (D0 : DfX K mg "read_integer" s_read_integer ["text"])  : OkF Pg w K mg base "read_integer" 1 ["text"] (spP K c_read_integer) := by
  obtain ⟨v_MINUS, u_MINUS, m_MINUS, r_MINUS, d_MINUS⟩ := C.d_MINUS
  obtain ⟨v_FIGURES, u_FIGURES, m_FIGURES, r_FIGURES, d_FIGURES⟩ := C.d_FIGURES
  obtain ⟨v_MOST_FIGURES, u_MOST_FIGURES, m_MOST_FIGURES, r_MOST_FIGURES, d_MOST_FIGURES⟩ := C.d_MOST_FIGURES
  refine okP D0 sc_read_integer (fun ds T h => len_read_integer h) fun f cdv A outer s H E hr => ⟨_, (pss_cons (ps_set (i := 1) sc_read_integer.nd rfl (.inl rfl) (pe_ifExp (pt_cmpR op_eq (pe_slice sl_str (pv 0) po_none (po_some pe_int)) (pe_glob (by rfl) m_MINUS r_MINUS) (nomark _)) (pe_slice sl_str (pv 0) (po_some pe_int) po_none) (pv 0)))
      (pss_cons (ps_if (PW.pt (pw_or (pt_not (pt_chain op_le op_le pe_int (pe_callB call_len_str (by rfl) C.f_len (by decide +kernel) (pa_cons (pv 1) pa_nil)) (pe_glob (by rfl) m_MOST_FIGURES r_MOST_FIGURES))) (pw_or1 (pt_not (pt_val (pe_callB (cr_all rfl) (by rfl) C.f_all (by decide +kernel) (pa_cons (pe_lc (own := [("sign", 2)]) (g := gName 2) rfl sc_read_integer.nd (pi_str (pv 1)) (blkOk_by (N := N_read_integer) (sc := defScope s_read_integer) (by decide +kernel)) (fun _ _ _ _ _ => (pg_name (i := 2) sc_read_integer.nd rfl (.inl rfl))) (fun _ _ _ _ _ => pts_nil) (fun _ _ _ _ _ => (pe_cmpR op_in_sign (pv 2) (pe_glob (by rfl) m_FIGURES r_FIGURES) rfl))) pa_nil)))))))
        (pss_one (ps_ret pe_non))
        pss_nil)
      (pss_cons (ps_if (PW.pt (pw_and (pt_cmpR op_eq (pe_ix ix_str (pv 1) pe_int (fun _ _ => rfl)) pe_str (nomark _)) (pw_and1 (PW.pt (pw_or (pt_cmpR op_gt (pe_callB call_len_str (by rfl) C.f_len (by decide +kernel) (pa_cons (pv 1) pa_nil)) pe_int (nomark _)) (pw_or1 (pt_cmpR op_ne (pv 0) (pv 1) (nomark _))))))))
        (pss_one (ps_ret pe_non))
        pss_nil)
      (pss_one (ps_ret (pe_callTy call_int_str (by rfl) C.f_int (by decide +kernel) (pa_cons (pv 0) pa_nil))))))), fun ds T h => ?_⟩
  obtain ⟨x, rfl, hx, hT⟩ := h
  have hz : x.length ≤ sizeLine := Nat.le_trans hx (by decide)
  have hb := bareS_len x
  have hlen : (bareS x).length = (bareL (tl x)).length := by rw [len_tl, tl_bareS]
  have hzb : (bareS x).length ≤ sizeLine := Nat.le_trans hb hz
  have ht : decide (cutS x none (some 1) = "-") = decide ((tl x).take 1 = [45]) := decide_eq_decide.mpr (by rw [str_eq, minus_tl, tl_take1])
  refine ds_let (DP.is (dp_ite (p := (tl x).take 1 = [45]) (DTP.is (dtp_test (dp_eqS (dp_sliceS (dp_var rfl) hz do_none (do_some dp_int)) (dp_c d_MINUS))) ht) (fun z => dp_sliceS (dp_var rfl) hz (do_some dp_int) do_none) (fun z => dp_var rfl)) (ite_bare x)) ?_
  have b1 : ∀ n : Nat, (!(decide ((1 : Int) ≤ (n : Int)) && decide ((n : Int) ≤ 300)) : Bool) = !(decide (0 < n) && decide (n ≤ 300)) := fun n => by
    rw [decide_eq_decide.mpr (show (1 : Int) ≤ (n : Int) ↔ 0 < n by omega), decide_eq_decide.mpr (show (n : Int) ≤ 300 ↔ n ≤ 300 by omega)]
  refine ds_when (b := !(decide (0 < (bareL (tl x)).length) && decide ((bareL (tl x)).length ≤ 300)) || !((bareL (tl x)).all digB)) ?_ (fun z => ?_) fun z => ?_
  · refine DTP.is (dtp_or (dtp_not (dtp_test (dp_chain dp_int (dp_lenS (dp_var rfl) hzb) (r2_I0 (fun _ => .bl _) rfl) (fun _ => dp_c d_MOST_FIGURES) fun _ => r2_I0 (fun _ => .bl _) rfl))) fun _ => dtp_not (dtp_B (dp_allDig (by simp) (by show 2 < 3; decide) (dp_var rfl) (Nat.lt_of_le_of_lt (Nat.le_trans hb hx) (by decide)) fun d => dp_c d_FIGURES))) ?_
    rw [b1, hlen, tl_bareS]
  · refine ds_retp dp_non ?_
    rw [rdI_no1 z] at hT
    exact hT
  · obtain ⟨c, r, ec⟩ := bare_cons z
    have hcc : tl (bareS x) = c :: r := by rw [tl_bareS, ec]
    refine ds_when (b := decide (c = 48) && (decide (1 < (bareL (tl x)).length) || !decide (tl x = bareL (tl x)))) ?_ (fun w => ?_) fun w => ?_
    · refine dtp_and (DTP.is (dtp_test (dp_eqS (dp_ixS (dp_var rfl) dp_int hzb (atI_tl hcc)) dp_str)) (sgn1_eq zero_tl)) fun _ => dtp_or (DTP.is (dtp_test (dp_gt (dp_lenS (dp_var rfl) hzb) dp_int)) ?_) fun _ => DTP.is (dtp_test (dp_neS (dp_var rfl) (dp_var rfl))) ?_
      · rw [hlen]; exact decide_eq_decide.mpr (by omega)
      · rw [decide_eq_decide.mpr (show x = bareS x ↔ tl x = bareL (tl x) by rw [str_eq, tl_bareS])]
    · refine ds_retp dp_non ?_
      rw [rdI_2 z ec, if_pos w] at hT
      exact hT
    · have hr := rdI_2 z ec
      rw [w, if_neg Bool.false_ne_true] at hr
      rw [hr] at hT
      have hi := it_int (rdI_inv hr).1
      exact ds_retp (dp_intS (dp_var rfl) hi.1 (by omega)) hT

end H75
namespace H75
open PySem PySem.Spec PyProof.Rows L2 DL
open TL
theorem k300 : (10 : Int) ^ 300 ≤ 10 ^ 4000 := by decide +kernel
def c_integer_text0 : Call := fun ds T => ∃ n : Nat, ds = [.int (n : Int)] ∧ n < 10 ^ 300 ∧ T (.str (Str.ofString (toString (n : Int))))
theorem len_integer_text0 {ds T} (h : c_integer_text0 ds T) : ds.length = 1 := by obtain ⟨_, rfl, _⟩ := h; rfl
def c_integer_text : Call := fun ds T => ∃ i : Int, ds = [.int i] ∧ i.natAbs < 10 ^ 300 ∧ T (.str (Str.ofString (toString i)))
theorem len_integer_text {ds T} (h : c_integer_text ds T) : ds.length = 1 := by obtain ⟨_, rfl, _⟩ := h; rfl
abbrev N_integer_text : List Str := ["one", "parts", "rest"]
theorem sc_integer_text : FnScope N_integer_text ["one"] (defScope s_integer_text) := ⟨rfl, rfl, rfl, by decide +kernel, rfl, by decide +kernel, by decide +kernel⟩
set_option maxHeartbeats 2000000 in
theorem ok_integer_text0 {Pg : Program} {w : World} {K : Fg} {mg : Str → Option Value} {base : Heap} (C : Cs K mg) (D0 : DfX K mg "integer_text" s_integer_text ["one"])  : OkF Pg w K mg base "integer_text" 1 ["one"] (spP K c_integer_text0) := by
  obtain ⟨v_PART, u_PART, m_PART, r_PART, d_PART⟩ := C.d_PART
  refine okP D0 sc_integer_text (fun ds T h => len_integer_text0 h) fun f cdv A outer s H E hr => ⟨_, (pss_cons (ps_if (pt_cmpR op_lt (pv 0) pe_int (nomark _)) (pss_one ps_never) pss_nil)
      (pss_cons (ps_par (i := 1) (j := 2) rfl sc_integer_text.nd rfl rfl (by decide) rfl rfl (pa_cons (pe_lst pa_nil) (pa_cons (pv 0) pa_nil)) (by rfl))
      (pss_cons (ps_while PassesOwn.never (pt_cmpR op_ge (pv 2) (pe_glob (by rfl) m_PART r_PART) (nomark _)) (pss_cons ps_never (pss_one ps_never)))
      (pss_one (ps_ret (pe_op op_add_str (pe_callTy call_str_int (by rfl) C.f_str (by decide +kernel) (pa_cons (pv 2) pa_nil)) (pe_join pe_str (pe_revL (pv 1))))))))), fun ds T h => ?_⟩
  obtain ⟨n, rfl, hn, hT⟩ := h
  have hn' : ((n : Int)).natAbs < 10 ^ 300 := by rw [Int.natAbs_natCast]; exact hn
  have h1 : (n : Int) < 10 ^ 300 := by exact_mod_cast hn
  have h2 := k300
  refine ds_whenq (p := (n : Int) < 0) (dtp_test (dp_lt (dp_var rfl) dp_int)) (fun z => by omega) fun _ => ?_
  refine ds_parp (d := .list []) (e := .int (n : Int)) (dap_cons (dp_lst dap_nil) (dap_cons (dp_var rfl) dap_nil)) ?_
  refine ds_seq (ds_while (S := Unit) (fun _ => [.va (.int (n : Int)), .va (.list []), .va (.int (n : Int))]) (fun _ => True) (fun _ => 0) () rfl trivial fun _ _ => DT.of (b := false) (DTP.is (dtp_test (dp_ge (dp_var rfl) (dp_c d_PART))) (decide_eq_false (by omega))) ?_)
  rw [if_neg Bool.false_ne_true]
  have hl := str_len hn'
  refine ds_retp (dp_addS (dp_strI (dp_var rfl) (log_300 hn')) (dp_join (ys := []) dp_str (dp_revL (ds := []) (dp_var rfl)) (by decide)) ?_) ?_
  · rw [DL.join_nil]; exact Nat.le_trans hl (by decide)
  · rw [DL.join_nil, app_empty]; exact hT
set_option maxHeartbeats 2000000 in
theorem ok_integer_text {Pg : Program} {w : World} {K : Fg} {mg : Str → Option Value} {base : Heap} (C : Cs K mg) (D0 : DfX K mg "integer_text" s_integer_text ["one"]) (h_integer_text : OkF Pg w K mg base "integer_text" 1 ["one"] (spP K c_integer_text0)) : OkF Pg w K mg base "integer_text" 2 ["one"] (spP K c_integer_text) := by
  obtain ⟨v_MINUS, u_MINUS, m_MINUS, r_MINUS, d_MINUS⟩ := C.d_MINUS
  obtain ⟨v_PART, u_PART, m_PART, r_PART, d_PART⟩ := C.d_PART
  refine okP D0 sc_integer_text (fun ds T h => len_integer_text h) fun f cdv A outer s H E hr => ⟨_, (pss_cons (ps_if (pt_cmpR op_lt (pv 0) pe_int (nomark _))
        (pss_one (ps_ret (pe_op op_add_str (pe_glob (by rfl) m_MINUS r_MINUS) (pe_cl h_integer_text (hr.mono (by decide)) (pa_cons (pe_op op_sub pe_int (pv 0)) pa_nil)))))
        pss_nil)
      (pss_cons (ps_par (i := 1) (j := 2) rfl sc_integer_text.nd rfl rfl (by decide) rfl rfl (pa_cons (pe_lst pa_nil) (pa_cons (pv 0) pa_nil)) (by rfl))
      (pss_cons (ps_while PassesOwn.never (pt_cmpR op_ge (pv 2) (pe_glob (by rfl) m_PART r_PART) (nomark _)) (pss_cons ps_never (pss_one ps_never)))
      (pss_one (ps_ret (pe_op op_add_str (pe_callTy call_str_int (by rfl) C.f_str (by decide +kernel) (pa_cons (pv 2) pa_nil)) (pe_join pe_str (pe_revL (pv 1))))))))), fun ds T h => ?_⟩
  obtain ⟨i, rfl, hi, hT⟩ := h
  have h2 := k300
  refine ds_whenq (p := i < 0) (dtp_test (dp_lt (dp_var rfl) dp_int)) (fun z => ?_) fun z => ?_
  · have e : (0 : Int) - i = ((i.natAbs : Nat) : Int) := by omega
    have hl := str_len (n := ((i.natAbs : Nat) : Int)) (by rw [Int.natAbs_natCast]; exact hi)
    refine ds_retp (dp_addS (dp_c d_MINUS) (dp_call (dap_cons (dp_sub dp_int (dp_var rfl)) dap_nil) ⟨i.natAbs, by rw [e], hi, rfl⟩) ?_) ?_
    · have : ("-" : Str).length = 1 := by decide
      rw [this]; exact Nat.le_trans (Nat.add_le_add_left hl 1) (by decide)
    · rw [str_min (by omega), show -((i.natAbs : Nat) : Int) = i by omega]; exact hT
  refine ds_parp (d := .list []) (e := .int i) (dap_cons (dp_lst dap_nil) (dap_cons (dp_var rfl) dap_nil)) ?_
  have h1 : i < 10 ^ 300 := by have : ((i.natAbs : Nat) : Int) < 10 ^ 300 := by exact_mod_cast hi
                               omega
  refine ds_seq (ds_while (S := Unit) (fun _ => [.va (.int i), .va (.list []), .va (.int i)]) (fun _ => True) (fun _ => 0) () rfl trivial fun _ _ => DT.of (b := false) (DTP.is (dtp_test (dp_ge (dp_var rfl) (dp_c d_PART))) (decide_eq_false (by omega))) ?_)
  rw [if_neg Bool.false_ne_true]
  have hl := str_len hi
  refine ds_retp (dp_addS (dp_strI (dp_var rfl) (log_300 hi)) (dp_join (ys := []) dp_str (dp_revL (ds := []) (dp_var rfl)) (by decide)) ?_) ?_
  · rw [DL.join_nil]; exact Nat.le_trans hl (by decide)
  · rw [DL.join_nil, app_empty]; exact hT
theorem stroke_len : ("/" : Str).length = 1 := by decide
def c_fraction_text : Call := fun ds T => ∃ q : Rat, ds = [eR q] ∧ Told q ∧ T (.str (wF q))
theorem len_fraction_text {ds T} (h : c_fraction_text ds T) : ds.length = 1 := by obtain ⟨_, rfl, _⟩ := h; rfl
abbrev N_fraction_text : List Str := ["one"]
theorem sc_fraction_text : FnScope N_fraction_text ["one"] (defScope s_fraction_text) := ⟨rfl, rfl, rfl, by decide +kernel, rfl, by decide +kernel, by decide +kernel⟩
set_option maxHeartbeats 2000000 in
theorem ok_fraction_text {Pg : Program} {w : World} {K : Fg} {mg : Str → Option Value} {base : Heap} (C : Cs K mg) (D0 : DfX K mg "fraction_text" s_fraction_text ["one"]) (h_integer_text : OkF Pg w K mg base "integer_text" 2 ["one"] (spP K c_integer_text)) : OkF Pg w K mg base "fraction_text" 3 ["one"] (spP K c_fraction_text) := by
  obtain ⟨v_STROKE, u_STROKE, m_STROKE, r_STROKE, d_STROKE⟩ := C.d_STROKE
  refine okP D0 sc_fraction_text (fun ds T h => len_fraction_text h) fun f cdv A outer s H E hr => ⟨_, (pss_one (ps_ret (pe_ifExp (pt_cmpR op_eq (pe_ix ix_tup (pv 0) pe_int (fun _ _ => rfl)) pe_int (nomark _)) (pe_cl h_integer_text (hr.mono (by decide)) (pa_cons (pe_ix ix_tup (pv 0) pe_int (fun _ _ => rfl)) pa_nil)) (pe_op op_add_str (pe_op op_add_str (pe_cl h_integer_text (hr.mono (by decide)) (pa_cons (pe_ix ix_tup (pv 0) pe_int (fun _ _ => rfl)) pa_nil)) (pe_glob (by rfl) m_STROKE r_STROKE)) (pe_cl h_integer_text (hr.mono (by decide)) (pa_cons (pe_ix ix_tup (pv 0) pe_int (fun _ _ => rfl)) pa_nil)))))), fun ds T h => ?_⟩
  obtain ⟨q, rfl, hq, hT⟩ := h
  have hd : ((q.den : Int)).natAbs < 10 ^ 300 := by rw [den_abs]; exact hq.2
  have l1 := str_len hq.1
  have l2 := str_len hd
  refine ds_retp (DP.is (dp_ite (p := (q.den : Int) = 1) (dtp_test (dp_eqI (dp_ixT (dp_var rfl) dp_int) dp_int)) (fun _ => dp_call (dap_cons (dp_ixT (dp_var rfl) dp_int) dap_nil) ⟨q.num, rfl, hq.1, rfl⟩) (fun _ => dp_addS (dp_addS (dp_call (dap_cons (dp_ixT (dp_var rfl) dp_int) dap_nil) ⟨q.num, rfl, hq.1, rfl⟩) (dp_c d_STROKE) ?_) (dp_call (dap_cons (dp_ixT (dp_var rfl) dp_int) dap_nil) ⟨(q.den : Int), rfl, hd, rfl⟩) ?_)) (ite_wF q)) hT
  · rw [stroke_len]; exact Nat.le_trans (Nat.add_le_add_right l1 1) (by decide)
  · rw [len_tl, tl_append, List.length_append, ← len_tl, ← len_tl, stroke_len]; exact Nat.le_trans (Nat.add_le_add (Nat.add_le_add_right l1 1) l2) (by decide)
def c_law_written : Call := c_fraction_text
theorem len_law_written {ds T} (h : c_law_written ds T) : ds.length = 1 := by obtain ⟨_, rfl, _⟩ := h; rfl
abbrev N_law_written : List Str := ["one"]
theorem sc_law_written : FnScope N_law_written ["one"] (defScope s_law_written) := ⟨rfl, rfl, rfl, by decide +kernel, rfl, by decide +kernel, by decide +kernel⟩
set_option maxHeartbeats 2000000 in
theorem ok_law_written {Pg : Program} {w : World} {K : Fg} {mg : Str → Option Value} {base : Heap} (C : Cs K mg) (D0 : DfX K mg "_law_written" s_law_written ["one"])  : OkF Pg w K mg base "_law_written" 1 ["one"] (spP K c_law_written) := by
  refine okP D0 sc_law_written (fun ds T h => len_law_written h) fun f cdv A outer s H E hr => ⟨_, (pss_one (ps_ret (pe_ifExp (pt_cmpR op_eq (pe_ix ix_tup (pv 0) pe_int (fun _ _ => rfl)) pe_int (nomark _)) (pe_callTy call_str_int (by rfl) C.f_str (by decide +kernel) (pa_cons (pe_ix ix_tup (pv 0) pe_int (fun _ _ => rfl)) pa_nil)) (pe_op op_add_str (pe_op op_add_str (pe_callTy call_str_int (by rfl) C.f_str (by decide +kernel) (pa_cons (pe_ix ix_tup (pv 0) pe_int (fun _ _ => rfl)) pa_nil)) pe_str) (pe_callTy call_str_int (by rfl) C.f_str (by decide +kernel) (pa_cons (pe_ix ix_tup (pv 0) pe_int (fun _ _ => rfl)) pa_nil)))))), fun ds T h => ?_⟩
  obtain ⟨q, rfl, hq, hT⟩ := h
  have hd : ((q.den : Int)).natAbs < 10 ^ 300 := by rw [den_abs]; exact hq.2
  have l1 := str_len hq.1
  have l2 := str_len hd
  refine ds_retp (DP.is (dp_ite (p := (q.den : Int) = 1) (dtp_test (dp_eqI (dp_ixT (dp_var rfl) dp_int) dp_int)) (fun _ => dp_strI (dp_ixT (dp_var rfl) dp_int) (log_300 hq.1)) (fun _ => dp_addS (dp_addS (dp_strI (dp_ixT (dp_var rfl) dp_int) (log_300 hq.1)) dp_str ?_) (dp_strI (dp_ixT (dp_var rfl) dp_int) (log_300 hd)) ?_)) (ite_wF q)) hT
  · rw [stroke_len]; exact Nat.le_trans (Nat.add_le_add_right l1 1) (by decide)
  · rw [len_tl, tl_append, List.length_append, ← len_tl, ← len_tl, stroke_len]; exact Nat.le_trans (Nat.add_le_add (Nat.add_le_add_right l1 1) l2) (by decide)

end H75
namespace H75
open PySem PySem.Spec PyProof.Rows L2 DL
open TL
theorem kit_ss : kitB "str" "str" = some true := by decide +kernel
theorem stroke_ok : ("/" : Str).cps.all (· < 256) = true := by decide +kernel
theorem numbers_map (ps : List Str) : (ps.map PyData.str).map rdD = ps.map fun y => oI (rdI (tl y)) := by rw [List.map_map]; rfl
def c_read_fraction : Call := fun ds T => ∃ x : Str, ds = [.str x] ∧ x.length ≤ 100000 ∧ T (oF (readF (tl x)))
theorem len_read_fraction {ds T} (h : c_read_fraction ds T) : ds.length = 1 := by obtain ⟨_, rfl, _⟩ := h; rfl
abbrev N_read_fraction : List Str := ["text", "parts", "numbers", "found", "part"]
theorem sc_read_fraction : FnScope N_read_fraction ["text"] (defScope s_read_fraction) := ⟨rfl, rfl, rfl, by decide +kernel, rfl, by decide +kernel, by decide +kernel⟩
set_option maxHeartbeats 2000000 in
theorem ok_read_fraction {Pg : Program} {w : World} {K : Fg} {mg : Str → Option Value} {base : Heap} (C : Cs K mg) (D0 : DfX K mg "read_fraction" s_read_fraction ["text"]) (h_read_integer : OkF Pg w K mg base "read_integer" 1 ["text"] (spP K c_read_integer)) (h_is_fraction : OkF Pg w K mg base "is_fraction" 2 ["value"] (spP K c_is_fraction)) : OkF Pg w K mg base "read_fraction" 3 ["text"] (spP K c_read_fraction) := by
  obtain ⟨v_STROKE, u_STROKE, m_STROKE, r_STROKE, d_STROKE⟩ := C.d_STROKE
  refine okP D0 sc_read_fraction (fun ds T h => len_read_fraction h) fun f cdv A outer s H E hr => ⟨_, (pss_cons (ps_set (i := 1) sc_read_fraction.nd rfl (.inl rfl) (pe_ifExp (pt_val (pe_callB call_isi (by rfl) C.f_isinstance (by decide +kernel) (pa_cons (pv 0) (pa_cons (pe_bltn (v := .ty "str") (by rfl) C.f_str (by decide +kernel) rfl) pa_nil)))) (pe_split (pv 0) (pe_glob (by rfl) m_STROKE r_STROKE)) (pe_lst pa_nil)))
      (pss_cons (ps_setLc (i := 2) (own := [("part", 4)]) (g := gName 4) rfl sc_read_fraction.nd rfl rfl (sw_true rfl rfl rfl (by decide +kernel)) (pi_list (pv 1)) (blkOk_by (N := N_read_fraction) (sc := defScope s_read_fraction) (by decide +kernel)) (fun _ _ _ _ _ => (pg_name (i := 4) sc_read_fraction.nd rfl (.inl rfl))) (fun _ _ _ _ _ => pts_nil) (fun _ _ _ _ _ => (pe_cl h_read_integer (hr.mono (by decide)) (pa_cons (pv 4) pa_nil))))
      (pss_cons (ps_if (PW.pt (pw_or (pt_not (pt_chain op_le op_le pe_int (pe_callB call_len_seq (by rfl) C.f_len (by decide +kernel) (pa_cons (pv 1) pa_nil)) pe_int)) (pw_or1 (pt_cmpR (op_inD (runits hr)) pe_non (pv 2) rfl))))
        (pss_one (ps_ret pe_non))
        pss_nil)
      (pss_cons (ps_if (pt_cmpR op_eq (pe_callB call_len_seq (by rfl) C.f_len (by decide +kernel) (pa_cons (pv 1) pa_nil)) pe_int (nomark _))
        (pss_one (ps_ret (pe_tup (pa_cons (pe_ix ix_list (pv 2) pe_int (fun _ _ => rfl)) (pa_cons pe_int pa_nil)))))
        pss_nil)
      (pss_cons (ps_set (i := 3) sc_read_fraction.nd rfl (.inl rfl) (pe_tup (pa_cons (pe_ix ix_list (pv 2) pe_int (fun _ _ => rfl)) (pa_cons (pe_ix ix_list (pv 2) pe_int (fun _ _ => rfl)) pa_nil))))
      (pss_one (ps_ret (pe_ifExp (PW.pt (pw_and (pt_cmpR op_gt (pe_ix ix_list (pv 2) pe_int (fun _ _ => rfl)) pe_int (nomark _)) (pw_and1 (pt_val (pe_cl h_is_fraction (hr.mono (by decide)) (pa_cons (pv 3) pa_nil)))))) (pv 3) pe_non)))))))), fun ds T h => ?_⟩
  obtain ⟨x, rfl, hx, hT⟩ := h
  refine ds_let (dp_if (b := true) (dtp_B (dp_isi (dp_var rfl) kit_ss)) (fun _ => dp_split (dp_var rfl) (dp_c d_STROKE) (by decide) (Nat.le_trans (Nat.add_le_add_right hx 2) (by decide))) (fun z => nomatch z)) ?_
  have hsh : ∀ a ∈ Txt.split x "/", a.length ≤ 100000 := fun a ha => Nat.le_trans (split_short tl_stroke stroke_ok ha) hx
  have hcount : (Txt.split x "/").length < sizeLine := by
    have := PyProof.Rows.split_le x "/"
    have h2 : 100002 < sizeLine := by decide
    omega
  refine ds_let (DP.is (dp_lcL rdD (by simp) (dp_var rfl) (by rw [List.length_map]; exact hcount) (fun d hd => ?_)) (by rw [numbers_map])) ?_
  · obtain ⟨y, hy, rfl⟩ := List.mem_map.mp hd
    exact dp_call (dap_cons (dp_var rfl) dap_nil) ⟨y, rfl, hsh y hy, rfl⟩
  have hp := readF_parts x
  rw [hp] at hT
  have hne := split_ne (x := x) tl_stroke stroke_ok
  generalize Txt.split x "/" = ps at hT hsh hne
  match ps, hT, hsh, hne with
  | [], _, _, hne => exact absurd rfl hne
  | a :: b :: c :: r, hT, _, _ =>
    refine ds_when (b := true) (DTP.is (dtp_or (a := true) (b := true) (DTP.is (dtp_not (dtp_test (dp_chain dp_int (dp_lenL (dp_var rfl)) (r2_I0 (fun _ => .bl _) rfl) (fun _ => dp_int) fun _ => r2_I0 (fun _ => .bl _) rfl))) ?_) fun z => nomatch z) rfl) (fun _ => ds_retp dp_non hT) (fun z => nomatch z)
    rw [decide_eq_false (p := _ ≤ (2 : Int)) (by simp only [List.length_map, List.length_cons]; omega)]
    simp
  | [a], hT, hsh, _ =>
    replace hT := partsF_1 hT
    refine ds_when (b := (rdI (tl a)).isNone) (DTP.is (dtp_or (dtp_not (dtp_test (dp_chain dp_int (dp_lenL (dp_var rfl)) (r2_I0 (fun _ => .bl _) rfl) (fun _ => dp_int) fun _ => r2_I0 (fun _ => .bl _) rfl))) fun _ => dtp_test (dp_inD dp_non (dp_var rfl) rfl ?_)) ?_) (fun z => ?_) fun z => ?_
    · exact sh1
    · show (!(decide ((1 : Int) ≤ ((1 : Nat) : Int)) && decide (((1 : Nat) : Int) ≤ 2)) || (PyData.eqv (oI (rdI (tl a))) .none || false)) = _
      rw [eqv_oI_none]; simp
    · refine ds_retp dp_non ?_
      rw [Option.isNone_iff_eq_none.mp z] at hT
      exact hT
    · cases q : rdI (tl a) with
      | none => rw [q] at z; cases z
      | some n =>
        rw [q] at hT
        refine ds_when (b := true) (DTP.is (dtp_test (dp_eqI (dp_lenL (dp_var rfl)) dp_int)) (by rfl)) (fun _ => ?_) (fun z => nomatch z)
        refine ds_retp (dp_tup (dap_cons (dp_ixL (d := .int n) (dp_var rfl) dp_int ?_) (dap_cons dp_int dap_nil))) hT
        show atI [oI (rdI (tl a))] 0 = _
        rw [q]; rfl
  | [a, b], hT, hsh, _ =>
    replace hT := partsF_2 hT
    refine ds_when (b := (rdI (tl a)).isNone || (rdI (tl b)).isNone) (DTP.is (dtp_or (dtp_not (dtp_test (dp_chain dp_int (dp_lenL (dp_var rfl)) (r2_I0 (fun _ => .bl _) rfl) (fun _ => dp_int) fun _ => r2_I0 (fun _ => .bl _) rfl))) fun _ => dtp_test (dp_inD dp_non (dp_var rfl) rfl ?_)) ?_) (fun z => ?_) fun z => ?_
    · exact sh2
    · show (!(decide ((1 : Int) ≤ ((2 : Nat) : Int)) && decide (((2 : Nat) : Int) ≤ 2)) || (PyData.eqv (oI (rdI (tl a))) .none || (PyData.eqv (oI (rdI (tl b))) .none || false))) = _
      rw [eqv_oI_none, eqv_oI_none]; simp
    · refine ds_retp dp_non ?_
      cases q : rdI (tl a) with
      | none => rw [q] at hT; exact hT
      | some n =>
        rw [q] at hT z
        have z : (rdI (tl b)).isNone = true := z
        rw [Option.isNone_iff_eq_none.mp z] at hT
        exact hT
    · cases q : rdI (tl a) with
      | none => rw [q] at z; cases z
      | some t =>
        cases q2 : rdI (tl b) with
        | none => rw [q, q2] at z; cases z
        | some w =>
          rw [q, q2] at hT
          refine ds_when (b := false) (DTP.is (dtp_test (dp_eqI (dp_lenL (dp_var rfl)) dp_int)) (by rfl)) (fun z => nomatch z) fun _ => ?_
          refine ds_let (dp_tup (dap_cons (dp_ixL (d := .int t) (dp_var rfl) dp_int ?_) (dap_cons (dp_ixL (d := .int w) (dp_var rfl) dp_int ?_) dap_nil))) ?_
          · show atI [oI (rdI (tl a)), oI (rdI (tl b))] 0 = _
            rw [q]; rfl
          · show atI [oI (rdI (tl a)), oI (rdI (tl b))] 1 = _
            rw [q2]; rfl
          refine ds_retp (dp_ite (p := 1 < w ∧ Nat.gcd t.natAbs w.natAbs = 1) (d := .tuple [.int t, .int w]) (e := .none) (DTP.is (dtp_and (a := decide (1 < w)) (b := decide (Nat.gcd t.natAbs w.natAbs = 1)) (dtp_test (dp_gt (dp_ixL (dp_var rfl) dp_int ?_) dp_int)) fun h => dtp_B (dp_call (dap_cons (dp_var rfl) dap_nil) ⟨t, w, rfl, by have := of_decide_eq_true h; omega, rfl⟩)) (by rw [Bool.decide_and])) (fun _ => dp_var rfl) (fun _ => dp_non)) ?_
          · show atI [oI (rdI (tl a)), oI (rdI (tl b))] 1 = _
            rw [q2]; rfl
          · by_cases hc : 1 < w ∧ Nat.gcd t.natAbs w.natAbs = 1
            · rw [if_pos hc]
              have hT : T (oF (if 1 < w ∧ Nat.gcd t.natAbs w.natAbs = 1 then some (Rat.divInt t w) else none)) := hT
              rw [if_pos hc] at hT
              rw [eP_cop (by omega) hc.2]
              exact hT
            · rw [if_neg hc]
              have hT : T (oF (if 1 < w ∧ Nat.gcd t.natAbs w.natAbs = 1 then some (Rat.divInt t w) else none)) := hT
              rw [if_neg hc] at hT
              exact hT
def c_law_is_integer_text : Call := fun ds T => ∃ x : Str, ds = [.str x] ∧ x.length ≤ 100000 ∧ T (.bool (isIT (tl x)))
theorem len_law_is_integer_text {ds T} (h : c_law_is_integer_text ds T) : ds.length = 1 := by obtain ⟨_, rfl, _⟩ := h; rfl
theorem empty_tl : tl ("" : Str) = [] := by decide
abbrev N_law_is_integer_text : List Str := ["word", "bare", "sign"]
theorem sc_law_is_integer_text : FnScope N_law_is_integer_text ["word"] (defScope s_law_is_integer_text) := ⟨rfl, rfl, rfl, by decide +kernel, rfl, by decide +kernel, by decide +kernel⟩
set_option maxHeartbeats 2000000 in
theorem ok_law_is_integer_text {Pg : Program} {w : World} {K : Fg} {mg : Str → Option Value} {base : Heap} (C : Cs K mg) (D0 : DfX K mg "_law_is_integer_text" s_law_is_integer_text ["word"])  : OkF Pg w K mg base "_law_is_integer_text" 1 ["word"] (spP K c_law_is_integer_text) := by
  refine okP D0 sc_law_is_integer_text (fun ds T h => len_law_is_integer_text h) fun f cdv A outer s H E hr => ⟨_, (pss_cons (ps_set (i := 1) sc_law_is_integer_text.nd rfl (.inl rfl) (pe_ifExp (pt_cmpR op_eq (pe_slice sl_str (pv 0) po_none (po_some pe_int)) pe_str (nomark _)) (pe_slice sl_str (pv 0) (po_some pe_int) po_none) (pv 0)))
      (pss_cons (ps_if (PW.pt (pw_or (pt_cmpR op_eq (pv 1) pe_str (nomark _)) (pw_or (pt_cmpR op_gt (pe_callB call_len_str (by rfl) C.f_len (by decide +kernel) (pa_cons (pv 1) pa_nil)) pe_int (nomark _)) (pw_or1 (pt_not (pt_val (pe_callB (cr_all rfl) (by rfl) C.f_all (by decide +kernel) (pa_cons (pe_lc (own := [("sign", 2)]) (g := gName 2) rfl sc_law_is_integer_text.nd (pi_str (pv 1)) (blkOk_by (N := N_law_is_integer_text) (sc := defScope s_law_is_integer_text) (by decide +kernel)) (fun _ _ _ _ _ => (pg_name (i := 2) sc_law_is_integer_text.nd rfl (.inl rfl))) (fun _ _ _ _ _ => pts_nil) (fun _ _ _ _ _ => (pe_cmpR op_in_sign (pv 2) pe_str rfl))) pa_nil))))))))
        (pss_one (ps_ret pe_bl))
        pss_nil)
      (pss_one (ps_ret (pe_or (pe_cmpR op_eq (pv 0) pe_str (nomark _)) (pe_one (pe_cmpR op_ne (pe_slice sl_str (pv 1) po_none (po_some pe_int)) pe_str (nomark _)))))))), fun ds T h => ?_⟩
  obtain ⟨x, rfl, hx, hT⟩ := h
  have hz : x.length ≤ sizeLine := Nat.le_trans hx (by decide)
  have hb := bareS_len x
  have hlen : (bareS x).length = (bareL (tl x)).length := by rw [len_tl, tl_bareS]
  have hzb : (bareS x).length ≤ sizeLine := Nat.le_trans hb hz
  have ht : decide (cutS x none (some 1) = "-") = decide ((tl x).take 1 = [45]) := decide_eq_decide.mpr (by rw [str_eq, minus_tl, tl_take1])
  refine ds_let (DP.is (dp_ite (p := (tl x).take 1 = [45]) (DTP.is (dtp_test (dp_eqS (dp_sliceS (dp_var rfl) hz do_none (do_some dp_int)) dp_str)) ht) (fun z => dp_sliceS (dp_var rfl) hz (do_some dp_int) do_none) (fun z => dp_var rfl)) (ite_bare x)) ?_
  refine ds_when (b := decide (bareL (tl x) = []) || (!decide ((bareL (tl x)).length ≤ 300) || !((bareL (tl x)).all digB))) ?_ (fun z => ?_) fun z => ?_
  · refine dtp_or (DTP.is (dtp_test (dp_eqS (dp_var rfl) dp_str)) ?_) fun _ => DTP.is (dtp_or (DTP.is (dtp_test (dp_gt (dp_lenS (dp_var rfl) hzb) dp_int)) ?_) fun _ => dtp_not (dtp_B (dp_allDig (by simp) (by show 2 < 3; decide) (dp_var rfl) (Nat.lt_of_le_of_lt (Nat.le_trans hb hx) (by decide)) fun d => dp_str))) (by rw [tl_bareS])
    · exact decide_eq_decide.mpr (by rw [str_eq, empty_tl, tl_bareS])
    · rw [hlen, ← decide_not]; exact decide_eq_decide.mpr (by omega)
  · refine ds_retp dp_bl ?_
    have e : isIT (tl x) = false := by
      unfold isIT
      cases z1 : decide (bareL (tl x) = []) <;> cases z2 : decide ((bareL (tl x)).length ≤ 300) <;> cases z3 : (bareL (tl x)).all digB <;> rw [z1, z2, z3] at z <;> first | rfl | cases z
    rw [e] at hT
    exact hT
  · simp only [Bool.or_eq_false_iff, Bool.not_eq_false'] at z
    obtain ⟨z1, z2, z3⟩ := z
    refine ds_retp (dp_orV (a := decide (tl x = [48])) (b := !decide ((bareL (tl x)).take 1 = [48])) (DP.is (dp_eqS (dp_var rfl) dp_str) ?_) fun _ => DP.is (dp_neS (dp_sliceS (dp_var rfl) hzb do_none (do_some dp_int)) dp_str) ?_) ?_
    · exact congrArg PyData.bool (decide_eq_decide.mpr (by rw [str_eq, zero_tl]))
    · refine congrArg PyData.bool (congrArg not (decide_eq_decide.mpr ?_))
      rw [str_eq, zero_tl, tl_take1, tl_bareS]
    · unfold isIT at hT
      rw [z1, z2, z3] at hT
      exact hT
def c_law_read : Call := c_read_fraction
theorem len_law_read {ds T} (h : c_law_read ds T) : ds.length = 1 := by obtain ⟨_, rfl, _⟩ := h; rfl
theorem its_map (ps : List Str) : (ps.map PyData.str).map itD = (ps.map fun y => isIT (tl y)).map PyData.bool := by rw [List.map_map, List.map_map]; rfl
theorem rdI_it {l : List Nat} : rdI l = if isIT l = true then some (intV l) else none := rfl
abbrev N_law_read : List Str := ["word", "parts", "one", "part"]
theorem sc_law_read : FnScope N_law_read ["word"] (defScope s_law_read) := ⟨rfl, rfl, rfl, by decide +kernel, rfl, by decide +kernel, by decide +kernel⟩
set_option maxHeartbeats 2000000 in
theorem ok_law_read {Pg : Program} {w : World} {K : Fg} {mg : Str → Option Value} {base : Heap} (C : Cs K mg) (D0 : DfX K mg "_law_read" s_law_read ["word"]) (h__law_is_integer_text : OkF Pg w K mg base "_law_is_integer_text" 1 ["word"] (spP K c_law_is_integer_text)) (h__law_reduced : OkF Pg w K mg base "_law_reduced" 1 ["top", "low"] (spP K c_law_reduced)) : OkF Pg w K mg base "_law_read" 2 ["word"] (spP K c_law_read) := by
  refine okP D0 sc_law_read (fun ds T h => len_law_read h) fun f cdv A outer s H E hr => ⟨_, (pss_cons (ps_set (i := 1) sc_law_read.nd rfl (.inl rfl) (pe_split (pv 0) pe_str))
      (pss_cons (ps_if (PW.pt (pw_or (pt_cmpR op_gt (pe_callB call_len_seq (by rfl) C.f_len (by decide +kernel) (pa_cons (pv 1) pa_nil)) pe_int (nomark _)) (pw_or1 (pt_not (pt_val (pe_callB (cr_all rfl) (by rfl) C.f_all (by decide +kernel) (pa_cons (pe_lc (own := [("part", 3)]) (g := gName 3) rfl sc_law_read.nd (pi_list (pv 1)) (blkOk_by (N := N_law_read) (sc := defScope s_law_read) (by decide +kernel)) (fun _ _ _ _ _ => (pg_name (i := 3) sc_law_read.nd rfl (.inl rfl))) (fun _ _ _ _ _ => pts_nil) (fun _ _ _ _ _ => (pe_cl h__law_is_integer_text (hr.mono (by decide)) (pa_cons (pv 3) pa_nil)))) pa_nil)))))))
        (pss_one (ps_ret pe_non))
        pss_nil)
      (pss_cons (ps_if (pt_cmpR op_eq (pe_callB call_len_seq (by rfl) C.f_len (by decide +kernel) (pa_cons (pv 1) pa_nil)) pe_int (nomark _))
        (pss_one (ps_ret (pe_tup (pa_cons (pe_callTy call_int_str (by rfl) C.f_int (by decide +kernel) (pa_cons (pe_ix ix_list (pv 1) pe_int (fun _ _ => rfl)) pa_nil)) (pa_cons pe_int pa_nil)))))
        pss_nil)
      (pss_cons (ps_set (i := 2) sc_law_read.nd rfl (.inl rfl) (pe_tup (pa_cons (pe_callTy call_int_str (by rfl) C.f_int (by decide +kernel) (pa_cons (pe_ix ix_list (pv 1) pe_int (fun _ _ => rfl)) pa_nil)) (pa_cons (pe_callTy call_int_str (by rfl) C.f_int (by decide +kernel) (pa_cons (pe_ix ix_list (pv 1) pe_int (fun _ _ => rfl)) pa_nil)) pa_nil))))
      (pss_one (ps_ret (pe_ifExp (PW.pt (pw_and (pt_cmpR op_gt (pe_ix ix_tup (pv 2) pe_int (fun _ _ => rfl)) pe_int (nomark _)) (pw_and (pt_cmpR op_ne (pe_ix ix_tup (pv 2) pe_int (fun _ _ => rfl)) pe_int (nomark _)) (pw_and1 (pt_cmpR (op_eqD hr.units) (pe_cl h__law_reduced (hr.mono (by decide)) (pa_cons (pe_ix ix_tup (pv 2) pe_int (fun _ _ => rfl)) (pa_cons (pe_ix ix_tup (pv 2) pe_int (fun _ _ => rfl)) pa_nil))) (pv 2) (nomark _)))))) (pv 2) pe_non))))))), fun ds T h => ?_⟩
  obtain ⟨x, rfl, hx, hT⟩ := h
  refine ds_let (dp_split (dp_var rfl) dp_str (by decide) (Nat.le_trans (Nat.add_le_add_right hx 2) (by decide))) ?_
  have hsh : ∀ a ∈ Txt.split x "/", a.length ≤ 100000 := fun a ha => Nat.le_trans (split_short tl_stroke stroke_ok ha) hx
  have hcount : (Txt.split x "/").length < sizeLine := by
    have := PyProof.Rows.split_le x "/"
    have h2 : 100002 < sizeLine := by decide
    omega
  have hp := readF_parts x
  rw [hp] at hT
  have hne := split_ne (x := x) tl_stroke stroke_ok
  generalize Txt.split x "/" = ps at hT hsh hne hcount
  have hall : ∀ ρ : List Sl, ρ[1]? = some (.va (.list (ps.map .str))) → (wipeS ρ [3]).length = ρ.length → 3 < ρ.length → True := fun _ _ _ _ => trivial
  refine ds_when (b := decide (2 < ps.length) || !((ps.map fun y => isIT (tl y)).all id)) (dtp_or (DTP.is (dtp_test (dp_gt (dp_lenL (dp_var rfl)) dp_int)) ?_) fun _ => dtp_not (dtp_B (dp_all (bs := ps.map fun y => isIT (tl y)) (DP.is (dp_lcL itD (by simp) (dp_var rfl) (by rw [List.length_map]; exact hcount) (fun d hd => ?_)) (by rw [its_map]))))) (fun z => ?_) fun z => ?_
  · rw [List.length_map]; exact decide_eq_decide.mpr (by omega)
  · obtain ⟨y, hy, rfl⟩ := List.mem_map.mp hd
    exact dp_call (dap_cons (dp_var rfl) dap_nil) ⟨y, rfl, hsh y hy, rfl⟩
  · refine ds_retp dp_non ?_
    match ps, hT, hne, z with
    | [], _, hne, _ => exact absurd rfl hne
    | a :: b :: c :: r, hT, _, _ => exact hT
    | [a], hT, _, z =>
      replace hT := partsF_1 hT
      have z : isIT (tl a) = false := by simpa using z
      rw [rdI_it, z, if_neg Bool.false_ne_true] at hT
      exact hT
    | [a, b], hT, _, z =>
      replace hT := partsF_2 hT
      have z0 : isIT (tl a) = false ∨ isIT (tl b) = false := by simpa using z
      have z := fun q : isIT (tl a) = true => z0.resolve_left (by rw [q]; decide)
      cases q : isIT (tl a) with
      | false =>
        rw [rdI_it, q, if_neg Bool.false_ne_true] at hT
        exact hT
      | true =>
        rw [rdI_it (l := tl b), z q, if_neg Bool.false_ne_true] at hT
        rw [rdI_it, q, if_pos rfl] at hT
        exact hT
  · match ps, hT, hne, z, hsh with
    | [], _, hne, _, _ => exact absurd rfl hne
    | a :: b :: c :: r, _, _, z, _ => simp at z
    | [a], hT, _, z, hsh =>
      replace hT := partsF_1 hT
      have z : isIT (tl a) = true := by simpa using z
      rw [rdI_it, z, if_pos rfl] at hT
      have hi := it_int z
      refine ds_when (b := true) (DTP.is (dtp_test (dp_eqI (dp_lenL (dp_var rfl)) dp_int)) (by rfl)) (fun _ => ?_) (fun z => nomatch z)
      exact ds_retp (dp_tup (dap_cons (dp_intS (dp_ixL (d := .str a) (dp_var rfl) dp_int (by rfl)) hi.1 (by omega)) (dap_cons dp_int dap_nil))) hT
    | [a, b], hT, _, z, hsh =>
      replace hT := partsF_2 hT
      have z : isIT (tl a) = true ∧ isIT (tl b) = true := by simpa using z
      rw [rdI_it, z.1, if_pos rfl, rdI_it, z.2, if_pos rfl] at hT
      have hi := it_int z.1
      have hj := it_int z.2
      have la := it_lt z.1
      have lb := it_lt z.2
      generalize intV (tl a) = t at hT hi la
      generalize intV (tl b) = w at hT hj lb
      have hT : T (oF (if 1 < w ∧ Nat.gcd t.natAbs w.natAbs = 1 then some (Rat.divInt t w) else none)) := hT
      refine ds_when (b := false) (DTP.is (dtp_test (dp_eqI (dp_lenL (dp_var rfl)) dp_int)) (by rfl)) (fun z => nomatch z) fun _ => ?_
      refine ds_let (dp_tup (dap_cons (dp_intS (dp_ixL (d := .str a) (dp_var rfl) dp_int (by rfl)) hi.1 (by omega)) (dap_cons (dp_intS (dp_ixL (d := .str b) (dp_var rfl) dp_int (by rfl)) hj.1 (by omega)) dap_nil))) ?_
      refine ds_retp (dp_ite (p := 1 < w ∧ Nat.gcd t.natAbs w.natAbs = 1) (d := .tuple [.int t, .int w]) (e := .none) ?_ (fun _ => dp_var rfl) (fun _ => dp_non)) ?_
      · refine DTP.is (dtp_and (a := decide (1 < w)) (b := !decide (t = 0) && (decide ((Rat.divInt t w).num = t) && decide (((Rat.divInt t w).den : Int) = w))) (dtp_test (dp_gt (dp_ixT (dp_var rfl) dp_int) dp_int)) fun h => dtp_and (dtp_test (dp_neI (dp_ixT (dp_var rfl) dp_int) dp_int)) fun _ => DTP.is (dtp_test (dp_eqD (dp_call (d := eR (Rat.divInt t w)) (dap_cons (dp_ixT (d := .int t) (dp_var rfl) dp_int) (dap_cons (dp_ixT (d := .int w) (dp_var rfl) dp_int) dap_nil)) ⟨t, w, 1000, rfl, by have := of_decide_eq_true h; omega, Nat.lt_trans la p300, Nat.lt_trans lb p300, by omega, rfl⟩) (dp_var rfl) sh_eR rfl)) eqv_pair) ?_
        by_cases hw : 1 < w
        · rw [decide_eq_true hw, Bool.true_and]
          by_cases hg : Nat.gcd t.natAbs w.natAbs = 1
          · obtain ⟨e1, e2⟩ := divInt_num (t := t) (w := w) (by omega) hg
            have ht : t ≠ 0 := fun ht => by
              rw [ht] at hg
              have : Nat.gcd (0 : Int).natAbs w.natAbs = w.natAbs := Nat.gcd_zero_left _
              omega
            rw [decide_eq_true e1, decide_eq_true e2, decide_eq_false ht, decide_eq_true (⟨hw, hg⟩ : 1 < w ∧ Nat.gcd t.natAbs w.natAbs = 1)]; rfl
          · rw [decide_eq_false (p := 1 < w ∧ Nat.gcd t.natAbs w.natAbs = 1) (fun h => hg h.2)]
            rw [Bool.and_eq_false_iff]
            right
            rw [Bool.and_eq_false_iff]
            by_cases e1 : (Rat.divInt t w).num = t
            · by_cases e2 : ((Rat.divInt t w).den : Int) = w
              · exfalso
                apply hg
                have := (Rat.divInt t w).reduced
                unfold Nat.Coprime at this
                rw [e1] at this
                have e3 : w.natAbs = (Rat.divInt t w).den := by omega
                rw [e3]; exact this
              · exact .inr (decide_eq_false e2)
            · exact .inl (decide_eq_false e1)
        · rw [decide_eq_false hw, decide_eq_false (p := 1 < w ∧ Nat.gcd t.natAbs w.natAbs = 1) (fun h => hw h.1)]; rfl
      · by_cases hc : 1 < w ∧ Nat.gcd t.natAbs w.natAbs = 1
        · rw [if_pos hc] at hT ⊢
          rw [eP_cop (by omega) hc.2]
          exact hT
        · rw [if_neg hc] at hT ⊢
          exact hT

end H75
namespace H75
open PySem PySem.Spec PyProof.Rows L2 DL
open TL
theorem all_true {α : Type} (l : List α) : (l.map fun _ => true).all id = true := by simp
def c_is_poly : Call := fun ds T => ∃ cs : List Rat, ds = [.tuple (cs.map eR)] ∧ PolyOk cs ∧ T (.bool true)
theorem len_is_poly {ds T} (h : c_is_poly ds T) : ds.length = 1 := by obtain ⟨_, rfl, _⟩ := h; rfl
abbrev N_is_poly : List Str := ["value", "one"]
theorem sc_is_poly : FnScope N_is_poly ["value"] (defScope s_is_poly) := ⟨rfl, rfl, rfl, by decide +kernel, rfl, by decide +kernel, by decide +kernel⟩
set_option maxHeartbeats 2000000 in
theorem ok_is_poly {Pg : Program} {w : World} {K : Fg} {mg : Str → Option Value} {base : Heap} (C : Cs K mg) (D0 : DfX K mg "is_poly" s_is_poly ["value"]) (h_is_told_fraction : OkF Pg w K mg base "is_told_fraction" 3 ["value"] (spP K c_is_told_fraction)) : OkF Pg w K mg base "is_poly" 4 ["value"] (spP K c_is_poly) := by
  obtain ⟨v_MOST_DEGREE, u_MOST_DEGREE, m_MOST_DEGREE, r_MOST_DEGREE, d_MOST_DEGREE⟩ := C.d_MOST_DEGREE
  refine okP D0 sc_is_poly (fun ds T h => len_is_poly h) fun f cdv A outer s H E hr => ⟨_, (pss_cons (ps_if (PW.pt (pw_or (pt_not (pt_val (pe_callB call_isi (by rfl) C.f_isinstance (by decide +kernel) (pa_cons (pv 0) (pa_cons (pe_bltn (v := .ty "tuple") (by rfl) C.f_tuple (by decide +kernel) rfl) pa_nil))))) (pw_or1 (pt_cmpR op_gt (pe_callB call_len_seq (by rfl) C.f_len (by decide +kernel) (pa_cons (pv 0) pa_nil)) (pe_op op_add (pe_glob (by rfl) m_MOST_DEGREE r_MOST_DEGREE) pe_int) (nomark _)))))
        (pss_one (ps_ret pe_bl))
        pss_nil)
      (pss_one (ps_ret (pe_and (pe_callB (cr_all rfl) (by rfl) C.f_all (by decide +kernel) (pa_cons (pe_lc (own := [("one", 1)]) (g := gName 1) rfl sc_is_poly.nd (pi_tup (pv 0)) (blkOk_by (N := N_is_poly) (sc := defScope s_is_poly) (by decide +kernel)) (fun _ _ _ _ _ => (pg_name (i := 1) sc_is_poly.nd rfl (.inl rfl))) (fun _ _ _ _ _ => pts_nil) (fun _ _ _ _ _ => (pe_cl h_is_told_fraction (hr.mono (by decide)) (pa_cons (pv 1) pa_nil)))) pa_nil)) (pe_one (pe_or (pe_cmpR (op_eqD hr.units) (pv 0) (pe_tup pa_nil) (nomark _)) (pe_one (pe_cmpR op_ne (pe_ix ix_tup (pe_ix ix_tup (pv 0) (pe_un un_neg pe_int) (fun _ _ => rfl)) pe_int (fun _ _ => rfl)) pe_int (nomark _))))))))), fun ds T h => ?_⟩
  obtain ⟨cs, rfl, ok, hT⟩ := h
  have hl := ok.len
  refine ds_when (b := false) (DTP.is (dtp_or (a := false) (b := false) (dtp_not (dtp_B (b := true) (dp_isi (d := .tuple (cs.map eR)) (dp_var rfl) kit_tt))) fun _ => DTP.is (dtp_test (dp_gt (dp_lenT (dp_var rfl)) (dp_add (dp_c d_MOST_DEGREE) dp_int))) (decide_eq_false (by rw [List.length_map]; omega))) rfl) (fun z => nomatch z) fun _ => ?_
  have hall : DP K (tCB (rAll K) (tCons (tLc (iTup K (tVar 0)) (gName 1) tYes (tCall (spP K c_is_told_fraction) [] E0 (tCons (tVar 1) tNil)) [1]) tNil)) (initS N_is_poly [.tuple (cs.map eR)]) (.bool true) := by
    refine DP.is (dp_all (bs := cs.map fun _ => true) (DP.is (dp_lcT (fun _ => .bool true) (by simp) (dp_var rfl) (by rw [List.length_map]; exact Nat.lt_of_le_of_lt hl (by decide)) (fun d hd => ?_)) (by rw [List.map_map, List.map_map]; rfl))) (by rw [all_true])
    obtain ⟨q, hq, rfl⟩ := List.mem_map.mp hd
    exact DP.is (dp_call (dap_cons (dp_var rfl) dap_nil) ⟨q, rfl, rfl⟩) (by rw [told_b (ok.told q hq)])
  refine ds_retp (dp_andV (a := true) (b := true) hall fun _ => ?_) hT
  rcases snoc_cases cs with z | ⟨l, q, z⟩
  · refine dp_orV (a := true) (b := true) (DP.is (dp_eqD (dp_var rfl) (dp_tup dap_nil) (sh_polyT cs) rfl) ?_) (fun z => nomatch z)
    rw [eqv_nilT, z]; rfl
  · have hq := ok.last l q z
    have hn : ¬ q.num = 0 := fun w => hq (Rat.num_eq_zero.mp w)
    refine dp_orV (a := false) (b := true) (DP.is (dp_eqD (dp_var rfl) (dp_tup dap_nil) (sh_polyT cs) rfl) ?_) (fun _ => DP.is (dp_neI (dp_ixT (ds := [.int q.num, .int (q.den : Int)]) (dp_ixT (dp_var rfl) (dp_neg dp_int) ?_) dp_int) dp_int) ?_)
    · rw [eqv_nilT, z]; simp
    · rw [z, List.map_append]; exact atI_last
    · rw [decide_eq_false hn]; rfl
def c_check_poly : Call := fun ds T => ∃ cs : List Rat, ds = [.tuple (cs.map eR)] ∧ PolyOk cs ∧ T .none
theorem len_check_poly {ds T} (h : c_check_poly ds T) : ds.length = 1 := by obtain ⟨_, rfl, _⟩ := h; rfl
abbrev N_check_poly : List Str := ["poly"]
theorem sc_check_poly : FnScope N_check_poly ["poly"] (defScope s_check_poly) := ⟨rfl, rfl, rfl, by decide +kernel, rfl, by decide +kernel, by decide +kernel⟩
set_option maxHeartbeats 2000000 in
theorem ok_check_poly {Pg : Program} {w : World} {K : Fg} {mg : Str → Option Value} {base : Heap} (C : Cs K mg) (D0 : DfX K mg "check_poly" s_check_poly ["poly"]) (h_is_poly : OkF Pg w K mg base "is_poly" 4 ["value"] (spP K c_is_poly)) : OkF Pg w K mg base "check_poly" 5 ["poly"] (spP K c_check_poly) := by
  refine okP D0 sc_check_poly (fun ds T h => len_check_poly h) fun f cdv A outer s H E hr => ⟨_, (pss_one (ps_if (pt_not (pt_val (pe_cl h_is_poly (hr.mono (by decide)) (pa_cons (pv 0) pa_nil))))
        (pss_one ps_never)
        pss_nil)), fun ds T h => ?_⟩
  obtain ⟨cs, rfl, ok, hT⟩ := h
  exact ds_ifp (b := false) (DTP.is (dtp_not (dtp_B (dp_call (dap_cons (dp_var rfl) dap_nil) ⟨cs, rfl, ok, rfl⟩))) rfl) (fun z => nomatch z) fun _ => ds_next hT
theorem sz0 : SzR 1 (0 : Rat) := ⟨by decide, by decide⟩
def c_value_at : Call := fun ds T => ∃ cs : List Rat, ds = [.tuple (cs.map eR), eR 0] ∧ PolyOk cs ∧ T (eR (cs.head?.getD 0))
theorem len_value_at {ds T} (h : c_value_at ds T) : ds.length = 2 := by obtain ⟨_, rfl, _⟩ := h; rfl
theorem told0 : Told 0 := ⟨by decide +kernel, by decide +kernel⟩
theorem last_take {l : List Rat} {i : Nat} {q : Rat} (h : l[i]? = some q) : (l.take (i + 1)).getLast?.getD 0 = q := by
  rw [List.take_add_one, h]
  simp
theorem eR0' : dat_NOTHING = eR 0 := rfl
abbrev N_value_at : List Str := ["poly", "number", "found", "one"]
theorem sc_value_at : FnScope N_value_at ["poly", "number"] (defScope s_value_at) := ⟨rfl, rfl, rfl, by decide +kernel, rfl, by decide +kernel, by decide +kernel⟩
set_option maxHeartbeats 2000000 in
theorem ok_value_at {Pg : Program} {w : World} {K : Fg} {mg : Str → Option Value} {base : Heap} (C : Cs K mg) (D0 : DfX K mg "value_at" s_value_at ["poly", "number"]) (h_added : OkF Pg w K mg base "added" 3 ["one", "other"] (spP K c_added)) (h_product_of : OkF Pg w K mg base "product_of" 3 ["one", "other"] (spP K c_product_of)) : OkF Pg w K mg base "value_at" 4 ["poly", "number"] (spP K c_value_at) := by
  obtain ⟨v_NOTHING, u_NOTHING, m_NOTHING, r_NOTHING, d_NOTHING⟩ := C.d_NOTHING
  refine okP D0 sc_value_at (fun ds T h => len_value_at h) fun f cdv A outer s H E hr => ⟨_, (pss_cons (ps_set (i := 2) sc_value_at.nd rfl (.inl rfl) (pe_glob (by rfl) m_NOTHING r_NOTHING))
      (pss_cons (ps_for PassesOwn.never rfl (pi_tup (pe_revT (pv 0))) (pg_name (i := 3) sc_value_at.nd rfl (.inl rfl))
        (pss_one (ps_set (i := 2) sc_value_at.nd rfl (.inl rfl) (pe_cl h_added (hr.mono (by decide)) (pa_cons (pe_cl h_product_of (hr.mono (by decide)) (pa_cons (pv 2) (pa_cons (pv 1) pa_nil))) (pa_cons (pv 3) pa_nil))))))
      (pss_one (ps_ret (pv 2))))), fun ds T h => ?_⟩
  obtain ⟨cs, rfl, ok, hT⟩ := h
  refine ds_let (dp_c d_NOTHING) ?_
  refine ds_forq (fun ρ' => ∃ s : Sl, ρ' = [.va (.tuple (cs.map eR)), .va (eR 0), .va (eR (cs.head?.getD 0)), s]) (ds_for (fun ds i ρ' => ds = (cs.map eR).reverse ∧ ∃ (s : Sl) (f : Rat), ρ' = [.va (.tuple (cs.map eR)), .va (eR 0), .va (eR f), s] ∧ Told f ∧ f = ((cs.reverse.take i).getLast?.getD 0)) (di_tup (DE.of (dp_revT (dp_var rfl)) ⟨_, rfl, ⟨rfl, .no, 0, rfl, told0, rfl⟩, ?_, ?_⟩))) ?_
  · rintro i d ρ2 hd ⟨_, s, f, rfl, hf, ef⟩
    rw [← List.map_reverse, List.getElem?_map] at hd
    cases hq : cs.reverse[i]? with
    | none => rw [hq] at hd; cases hd
    | some q =>
      rw [hq] at hd
      cases hd
      have tq : Told q := ok.told q (List.mem_reverse.mp (List.mem_of_getElem? hq))
      refine dg_name ?_
      refine ds_asg (DE.of (dp_call (d := eR q) (dap_cons (dp_call (d := eR 0) (dap_cons (dp_var rfl) (dap_cons (dp_var rfl) dap_nil)) ⟨f, 0, 1000, 1, rfl, told_sz hf, sz0, by omega, by show eR (f * 0) = eR 0; rw [Rat.mul_zero]⟩) (dap_cons (dp_var rfl) dap_nil)) ⟨0, q, 1, 1000, rfl, sz0, told_sz tq, by omega, by show eR (0 + q) = eR q; rw [Rat.zero_add]⟩) (dg_name ?_))
      exact ⟨rfl, _, q, rfl, tq, (last_take hq).symm⟩
  · rintro ρ2 ⟨_, s, f, rfl, hf, ef⟩
    refine ⟨s, ?_⟩
    rw [ef, List.length_reverse, List.length_map, List.take_of_length_le (by rw [List.length_reverse]; exact Nat.le_refl _), List.getLast?_reverse]
  · rintro ρ' ⟨s, rfl⟩
    exact ds_retp (dp_var rfl) hT
def c_poly_value : Call := c_value_at
theorem len_poly_value {ds T} (h : c_poly_value ds T) : ds.length = 2 := len_value_at h
abbrev N_poly_value : List Str := ["poly", "number"]
theorem sc_poly_value : FnScope N_poly_value ["poly", "number"] (defScope s_poly_value) := ⟨rfl, rfl, rfl, by decide +kernel, rfl, by decide +kernel, by decide +kernel⟩
set_option maxHeartbeats 2000000 in
theorem ok_poly_value {Pg : Program} {w : World} {K : Fg} {mg : Str → Option Value} {base : Heap} (C : Cs K mg) (D0 : DfX K mg "poly_value" s_poly_value ["poly", "number"]) (h_check_poly : OkF Pg w K mg base "check_poly" 5 ["poly"] (spP K c_check_poly)) (h_is_told_fraction : OkF Pg w K mg base "is_told_fraction" 3 ["value"] (spP K c_is_told_fraction)) (h_value_at : OkF Pg w K mg base "value_at" 4 ["poly", "number"] (spP K c_value_at)) : OkF Pg w K mg base "poly_value" 6 ["poly", "number"] (spP K c_poly_value) := by
  refine okP D0 sc_poly_value (fun ds T h => len_poly_value h) fun f cdv A outer s H E hr => ⟨_, (pss_cons (ps_expr (pe_cl h_check_poly (hr.mono (by decide)) (pa_cons (pv 0) pa_nil)))
      (pss_cons (ps_if (pt_not (pt_val (pe_cl h_is_told_fraction (hr.mono (by decide)) (pa_cons (pv 1) pa_nil))))
        (pss_one ps_never)
        pss_nil)
      (pss_one (ps_ret (pe_cl h_value_at (hr.mono (by decide)) (pa_cons (pv 0) (pa_cons (pv 1) pa_nil))))))), fun ds T h => ?_⟩
  obtain ⟨cs, rfl, ok, hT⟩ := h
  refine ds_seq (ds_drop (DE.of (dp_call (dap_cons (dp_var rfl) dap_nil) ⟨cs, rfl, ok, rfl⟩) ?_))
  refine ds_when (b := false) (DTP.is (dtp_not (dtp_B (dp_call (dap_cons (dp_var rfl) dap_nil) ⟨0, rfl, rfl⟩))) (by rw [told_b told0]; rfl)) (fun z => nomatch z) fun _ => ?_
  exact ds_retp (dp_call (dap_cons (dp_var rfl) (dap_cons (dp_var rfl) dap_nil)) ⟨cs, rfl, ok, rfl⟩) hT
theorem log_small {n : Nat} (h : n ≤ 100) : ((n : Int)).natAbs < 10 ^ 300 := by
  have : (100 : Nat) < 10 ^ 300 := by decide +kernel
  omega
def c_power_text : Call := fun ds T => ∃ n : Nat, ds = [.int (n : Int)] ∧ n ≤ 100 ∧ T (.str (pwX n))
theorem len_power_text {ds T} (h : c_power_text ds T) : ds.length = 1 := by obtain ⟨_, rfl, _⟩ := h; rfl
abbrev N_power_text : List Str := ["at"]
theorem sc_power_text : FnScope N_power_text ["at"] (defScope s_power_text) := ⟨rfl, rfl, rfl, by decide +kernel, rfl, by decide +kernel, by decide +kernel⟩
set_option maxHeartbeats 2000000 in
theorem ok_power_text {Pg : Program} {w : World} {K : Fg} {mg : Str → Option Value} {base : Heap} (C : Cs K mg) (D0 : DfX K mg "power_text" s_power_text ["at"])  : OkF Pg w K mg base "power_text" 1 ["at"] (spP K c_power_text) := by
  refine okP D0 sc_power_text (fun ds T h => len_power_text h) fun f cdv A outer s H E hr => ⟨_, (pss_one (ps_ret (pe_ifExp (pt_cmpR op_eq (pv 0) pe_int (nomark _)) pe_str (pe_ifExp (pt_cmpR op_eq (pv 0) pe_int (nomark _)) pe_str (pe_op op_add_str pe_str (pe_callTy call_str_int (by rfl) C.f_str (by decide +kernel) (pa_cons (pv 0) pa_nil))))))), fun ds T h => ?_⟩
  obtain ⟨n, rfl, hn, hT⟩ := h
  have hs := log_small hn
  have hl := str_len hs
  refine ds_retp (DP.is (dp_ite (p := n = 0) (DTP.is (dtp_test (dp_eqI (dp_var rfl) dp_int)) (decide_eq_decide.mpr (by omega))) (fun _ => dp_str) fun _ => dp_ite (p := n = 1) (DTP.is (dtp_test (dp_eqI (dp_var rfl) dp_int)) (decide_eq_decide.mpr (by omega))) (fun _ => dp_str) fun _ => dp_addS dp_str (dp_strI (dp_var rfl) (log_300 hs)) ?_) ?_) hT
  · have : ("x" : Str).length = 1 := by decide
    rw [this]; exact Nat.le_trans (Nat.add_le_add_left hl 1) (by decide)
  · rw [DL.ite_str, DL.ite_str]; rfl
theorem sum_ok {cs : List Rat} (ok : PolyOk cs) : ((partsP cs cs.length).map (·.length)).sum + (partsP cs cs.length).length * (", " : Str).length ≤ 16777216 := by
  have h2 : (", " : Str).length = 2 := by decide
  rw [h2]; exact Nat.le_trans (partsP_sum ok (Nat.le_refl _)) (by decide)
theorem polyT_ite (cs : List Rat) {ps : List Str} (e : ps = partsP cs cs.length) : (if ps ≠ [] then PyData.str (Txt.join ", " ps) else PyData.str "0") = PyData.str (polyT cs) := by
  subst e
  unfold polyT
  by_cases h : partsP cs cs.length = []
  · rw [if_neg (not_not_intro h), if_pos h]
  · rw [if_pos h, if_neg h]
theorem ne_strs {ps : List Str} : (!PyData.eqv (.list (ps.map .str)) (.list [])) = decide (ps ≠ []) := by
  rw [eqv_nilL]
  cases ps <;> simp
theorem pwX_len {k : Nat} (h : k ≤ 100) : (pwX k).length ≤ 400 := by
  have h2 := str_len (log_small h)
  unfold pwX
  split
  · decide
  · split
    · decide
    · rw [len_tl] at h2 ⊢
      rw [tl_append, x_tl, List.length_append]
      exact Nat.le_trans (Nat.add_le_add_left h2 1) (by decide)
theorem two_sum {a b : Str} (ha : a.length ≤ 603) (hb : b.length ≤ 400) {f : Str → Bool} : ((([a, b].filter f).map (·.length)).sum + ([a, b].filter f).length * (" " : Str).length) ≤ 16777216 := by
  have h1 : (" " : Str).length = 1 := by decide
  rw [h1]
  cases e1 : f a <;> cases e2 : f b <;> simp [List.filter_cons, e1, e2] <;> omega
def c_text_of_poly : Call := fun ds T => ∃ cs : List Rat, ds = [.tuple (cs.map eR)] ∧ PolyOk cs ∧ T (.str (polyT cs))
theorem len_text_of_poly {ds T} (h : c_text_of_poly ds T) : ds.length = 1 := by obtain ⟨_, rfl, _⟩ := h; rfl
abbrev N_text_of_poly : List Str := ["poly", "found", "at", "word"]
theorem sc_text_of_poly : FnScope N_text_of_poly ["poly"] (defScope s_text_of_poly) := ⟨rfl, rfl, rfl, by decide +kernel, rfl, by decide +kernel, by decide +kernel⟩
set_option maxHeartbeats 2000000 in
theorem ok_text_of_poly {Pg : Program} {w : World} {K : Fg} {mg : Str → Option Value} {base : Heap} (C : Cs K mg) (D0 : DfX K mg "text_of_poly" s_text_of_poly ["poly"]) (h_power_text : OkF Pg w K mg base "power_text" 1 ["at"] (spP K c_power_text)) (h_fraction_text : OkF Pg w K mg base "fraction_text" 3 ["one"] (spP K c_fraction_text)) : OkF Pg w K mg base "text_of_poly" 4 ["poly"] (spP K c_text_of_poly) := by
  refine okP D0 sc_text_of_poly (fun ds T h => len_text_of_poly h) fun f cdv A outer s H E hr => ⟨_, (pss_cons (ps_set (i := 1) sc_text_of_poly.nd rfl (.inl rfl) (pe_lst pa_nil))
      (pss_cons (ps_for PassesOwn.never rfl (pi_range3 (by rfl) C.f_range (pa_cons (pe_op op_sub (pe_callB call_len_seq (by rfl) C.f_len (by decide +kernel) (pa_cons (pv 0) pa_nil)) pe_int) (pa_cons (pe_un un_neg pe_int) (pa_cons (pe_un un_neg pe_int) pa_nil)))) (pg_name (i := 2) sc_text_of_poly.nd rfl (.inl rfl))
        (pss_one (ps_if (pt_cmpR op_ne (pe_ix ix_tup (pe_ix ix_tup (pv 0) (pv 2) (fun _ _ => rfl)) pe_int (fun _ _ => rfl)) pe_int (nomark _))
          (pss_one (ps_expr (pe_bm PySem.F.plainAttrs_list PySem.F.slot_list_append PySem.F.type_list_append mt_append (pv 1) (pa_cons (pe_join pe_str (pe_lc (own := [("word", 3)]) (g := gName 3) rfl sc_text_of_poly.nd (pi_tup (pe_tup (pa_cons (pe_cl h_fraction_text (hr.mono (by decide)) (pa_cons (pe_ix ix_tup (pv 0) (pv 2) (fun _ _ => rfl)) pa_nil)) (pa_cons (pe_cl h_power_text (hr.mono (by decide)) (pa_cons (pv 2) pa_nil)) pa_nil)))) (blkOk_by (N := N_text_of_poly) (sc := defScope s_text_of_poly) (by decide +kernel)) (fun _ _ _ _ _ => (pg_name (i := 3) sc_text_of_poly.nd rfl (.inl rfl))) (fun _ _ _ _ _ => (pts_one (pt_cmpR op_ne (pv 3) pe_str (nomark _)))) (fun _ _ _ _ _ => (pv 3)))) pa_nil))))
          pss_nil)))
      (pss_one (ps_ret (pe_ifExp (pt_cmpR (op_neD hr.units) (pv 1) (pe_lst pa_nil) (nomark _)) (pe_join pe_str (pv 1)) pe_str))))), fun ds T h => ?_⟩
  obtain ⟨cs, rfl, ok, hT⟩ := h
  have hl := ok.len
  refine ds_cell (by show 1 < 4; decide) (dn_lst (DA.of dap_nil ⟨by decide, rfl, fun p nc => ?_⟩))
  refine ds_forq (fun ρ' => ∃ s s2 : Sl, ρ' = [.va (.tuple (cs.map eR)), .ce p ((partsP cs cs.length).map .str), s, s2]) (ds_for (fun ds i ρ' => ds = ((List.range cs.length).map fun i : Nat => PyData.int ((cs.length : Int) - 1 - (i : Int))) ∧ ∃ (s : Sl) (acc : List Str), ρ' = [.va (.tuple (cs.map eR)), .ce p (acc.map .str), s, .no] ∧ acc.length ≤ i ∧ acc ++ partsP cs (cs.length - i) = partsP cs cs.length) (di_rng3 (DA.of (dap_cons (dp_sub (dp_lenT (dp_var rfl)) dp_int) (dap_cons (dp_neg dp_int) (dap_cons (dp_neg dp_int) dap_nil))) ⟨_, _, rfl, ?_, ⟨?_, .no, [], rfl, Nat.zero_le _, rfl⟩, ?_, ?_⟩))) ?_
  · rw [List.length_map]; omega
  · rw [List.length_map]
    rw [show ((cs.length : Int) - 1 - -1).toNat = cs.length by omega]
  · rintro i d ρ2 hd ⟨eds, s, acc, rfl, hacc, e⟩
    rw [eds] at hd
    have hi : i < cs.length := by
      have := (List.getElem?_eq_some_iff.mp hd).1
      rw [List.length_map, List.length_range] at this
      exact this
    rw [List.getElem?_map, List.getElem?_range hi] at hd
    have hk : (cs.length : Int) - 1 - (i : Int) = ((cs.length - 1 - i : Nat) : Int) := by omega
    have hd' : d = .int ((cs.length : Int) - 1 - (i : Int)) := (Option.some.inj hd).symm
    rw [hk] at hd'
    subst hd'
    refine dg_name ?_
    have hk2 : cs.length - i = (cs.length - 1 - i) + 1 := by omega
    have hk3 : cs.length - (i + 1) = cs.length - 1 - i := by omega
    have hat : atI (cs.map eR) ((cs.length - 1 - i : Nat) : Int) = some (eR (cs.getD (cs.length - 1 - i) 0)) := atI_poly rfl (by omega)
    have hat' := hat
    generalize hkk : cs.length - 1 - i = k at hat hk2 hk3
    have hk9 : k ≤ 100 := by omega
    have tq := getD_told ok.told k
    have tl1 := partT_len ok.told hk9
    have wl := wF_len tq
    generalize hq : cs.getD k 0 = q at hat tq wl tl1
    refine ds_ifq (p := q ≠ 0) (DTP.is (dtp_test (dp_neI (dp_ixT (ds := [.int q.num, .int (q.den : Int)]) (dp_ixT (dp_var rfl) (dp_var rfl) hat) dp_int) dp_int)) (by rw [decide_eq_decide.mpr (Rat.num_eq_zero (q := q)), ← decide_not])) (fun z => ?_) fun z => ?_
    · rw [hk2, partsP_yes (by rw [hq]; exact z), hq] at e
      refine ds_appE rfl (de_join dp_str (de_new (dn_lc (fun ds j ac ρ' => ds = [.str (wF q), .str (pwX k)] ∧ ac = (([wF q, pwX k].take j).filter fun y : Str => !decide (y = ("" : Str))).map PyData.str ∧ ρ' = [.va (.tuple (cs.map eR)), .ce p (acc.map .str), .va (.int (k : Int)), .no]) gw_name (di_tup (DE.of (dp_tup (dap_cons (dp_call (dap_cons (dp_ixT (dp_var rfl) (dp_var rfl) hat) dap_nil) ⟨q, rfl, tq, rfl⟩) (dap_cons (dp_call (dap_cons (dp_var rfl) dap_nil) ⟨k, rfl, hk9, rfl⟩) dap_nil))) ⟨_, rfl, by show 2 < sizeLine; decide, ⟨rfl, rfl, rfl⟩, ?_, ?_⟩)))))
      · rintro j d ac ρ3 hd ⟨_, rfl, rfl⟩
        obtain ⟨y, hy, rfl⟩ : ∃ y, [wF q, pwX k][j]? = some y ∧ d = .str y := by
          match j, hd with
          | 0, hd => cases hd; exact ⟨_, rfl, rfl⟩
          | 1, hd => cases hd; exact ⟨_, rfl, rfl⟩
          | j + 2, hd => cases hd
        refine dg_name ?_
        refine DT.of (dtp_test (dp_neS (dp_var rfl) dp_str)) ?_
        have et : ([wF q, pwX k].take (j + 1)).filter (fun y : Str => !decide (y = ("" : Str))) = ([wF q, pwX k].take j).filter (fun y : Str => !decide (y = ("" : Str))) ++ (if !decide (y = ("" : Str)) then [y] else []) := by
          rw [List.take_add_one, hy, List.filter_append]
          congr 1
          cases w : (!decide (y = ("" : Str))) <;> simp [List.filter_cons, w]
        cases w : (!decide (y = ("" : Str))) with
        | true =>
          rw [w] at et
          rw [if_pos rfl]
          refine DE.of (dp_var rfl) ⟨rfl, ?_, rfl⟩
          rw [et, List.map_append]; rfl
        | false =>
          rw [w] at et
          rw [if_neg Bool.false_ne_true]
          refine ⟨rfl, ?_, rfl⟩
          rw [et]
          simp
      · rintro ac ρ3 ⟨_, rfl, rfl⟩
        have ej : Txt.join " " (([wF q, pwX k].take ([PyData.str (wF q), PyData.str (pwX k)] : List D).length).filter fun y : Str => !decide (y = ("" : Str))) = partT q k := by
          show Txt.join " " ([wF q, pwX k].filter fun y : Str => !decide (y = ("" : Str))) = _
          by_cases hk0 : k = 0
          · subst hk0
            have : [wF q, pwX 0].filter (fun y : Str => !decide (y = ("" : Str))) = [wF q] := by
              rw [List.filter_cons, if_pos (by rw [decide_eq_false (wF_ne' q)]; rfl), List.filter_cons, if_neg (by rw [decide_eq_true pwX_0]; decide)]; rfl
            rw [this, join_1, partT_0]
          · have : [wF q, pwX k].filter (fun y : Str => !decide (y = ("" : Str))) = [wF q, pwX k] := by
              rw [List.filter_cons, if_pos (by rw [decide_eq_false (wF_ne' q)]; rfl), List.filter_cons, if_pos (by rw [decide_eq_false (pwX_ne hk0)]; rfl)]; rfl
            rw [this, join_2, partT_s hk0]
        refine ⟨_, rfl, ?_, acc.map .str, rfl, by rw [List.length_map]; exact Nat.lt_of_le_of_lt hacc (Nat.lt_of_lt_of_le hi (Nat.le_trans hl (by decide))), ?_⟩
        · exact two_sum wl (pwX_len hk9)
        · rw [ej]
          refine ⟨eds, .va (.int (k : Int)), acc ++ [partT q k], ?_, ?_, ?_⟩
          · rw [List.map_append]; rfl
          · rw [List.length_append]; show acc.length + 1 ≤ _; omega
          · rw [hk3, List.append_assoc]; exact e
    · refine ds_next ⟨eds, _, acc, rfl, by omega, ?_⟩
      rw [hk2, partsP_no (by rw [hq]; exact z)] at e
      rw [hk3]; exact e
  · rintro ρ2 ⟨eds, s, acc, rfl, hacc, e⟩
    refine ⟨s, .no, ?_⟩
    rw [eds, List.length_map, List.length_range, Nat.sub_self] at e
    rw [← e]
    rw [show partsP cs 0 = [] from rfl, List.append_nil]
  · rintro ρ' ⟨s, s2, rfl⟩
    refine ds_freeze (i := 1) rfl ?_
    refine ds_retp (DP.is (dp_ite (p := partsP cs cs.length ≠ []) (DTP.is (dtp_test (dp_neD (dp_var rfl) (dp_lst dap_nil) (sh_strs (partsP_ok cs cs.length)) rfl)) ne_strs) (fun _ => dp_join dp_str (dp_var rfl) (sum_ok ok)) fun _ => dp_str) (polyT_ite cs rfl)) hT
def c_poly_text : Call := c_text_of_poly
theorem len_poly_text {ds T} (h : c_poly_text ds T) : ds.length = 1 := len_text_of_poly h
abbrev N_poly_text : List Str := ["poly"]
theorem sc_poly_text : FnScope N_poly_text ["poly"] (defScope s_poly_text) := ⟨rfl, rfl, rfl, by decide +kernel, rfl, by decide +kernel, by decide +kernel⟩
set_option maxHeartbeats 2000000 in
theorem ok_poly_text {Pg : Program} {w : World} {K : Fg} {mg : Str → Option Value} {base : Heap} (C : Cs K mg) (D0 : DfX K mg "poly_text" s_poly_text ["poly"]) (h_check_poly : OkF Pg w K mg base "check_poly" 5 ["poly"] (spP K c_check_poly)) (h_text_of_poly : OkF Pg w K mg base "text_of_poly" 4 ["poly"] (spP K c_text_of_poly)) : OkF Pg w K mg base "poly_text" 6 ["poly"] (spP K c_poly_text) := by
  refine okP D0 sc_poly_text (fun ds T h => len_poly_text h) fun f cdv A outer s H E hr => ⟨_, (pss_cons (ps_expr (pe_cl h_check_poly (hr.mono (by decide)) (pa_cons (pv 0) pa_nil)))
      (pss_one (ps_ret (pe_cl h_text_of_poly (hr.mono (by decide)) (pa_cons (pv 0) pa_nil))))), fun ds T h => ?_⟩
  obtain ⟨cs, rfl, ok, hT⟩ := h
  refine ds_seq (ds_drop (DE.of (dp_call (dap_cons (dp_var rfl) dap_nil) ⟨cs, rfl, ok, rfl⟩) ?_))
  exact ds_retp (dp_call (dap_cons (dp_var rfl) dap_nil) ⟨cs, rfl, ok, rfl⟩) hT

end H75
namespace H75
open PySem PySem.Spec PyProof.Rows L2 DL
open TL
def c_law_poly_written : Call := c_text_of_poly
theorem len_law_poly_written {ds T} (h : c_law_poly_written ds T) : ds.length = 1 := len_text_of_poly h
theorem pwL_ite (k : Nat) : (if k = 0 then PyData.str "" else if k = 1 then PyData.str " x" else PyData.str (" x" ++ Str.ofString (toString (k : Int)))) = PyData.str (pwL k) := by
  rw [DL.ite_str, DL.ite_str]; rfl
abbrev N_law_poly_written : List Str := ["poly", "parts", "at"]
theorem sc_law_poly_written : FnScope N_law_poly_written ["poly"] (defScope s_law_poly_written) := ⟨rfl, rfl, rfl, by decide +kernel, rfl, by decide +kernel, by decide +kernel⟩
set_option maxHeartbeats 2000000 in
theorem ok_law_poly_written {Pg : Program} {w : World} {K : Fg} {mg : Str → Option Value} {base : Heap} (C : Cs K mg) (D0 : DfX K mg "_law_poly_written" s_law_poly_written ["poly"]) (h__law_written : OkF Pg w K mg base "_law_written" 1 ["one"] (spP K c_law_written)) : OkF Pg w K mg base "_law_poly_written" 2 ["poly"] (spP K c_law_poly_written) := by
  refine okP D0 sc_law_poly_written (fun ds T h => len_law_poly_written h) fun f cdv A outer s H E hr => ⟨_, (pss_cons (ps_set (i := 1) sc_law_poly_written.nd rfl (.inl rfl) (pe_lst pa_nil))
      (pss_cons (ps_for PassesOwn.never rfl (pi_range3 (by rfl) C.f_range (pa_cons (pe_op op_sub (pe_callB call_len_seq (by rfl) C.f_len (by decide +kernel) (pa_cons (pv 0) pa_nil)) pe_int) (pa_cons (pe_un un_neg pe_int) (pa_cons (pe_un un_neg pe_int) pa_nil)))) (pg_name (i := 2) sc_law_poly_written.nd rfl (.inl rfl))
        (pss_one (ps_if (pt_cmpR op_ne (pe_ix ix_tup (pe_ix ix_tup (pv 0) (pv 2) (fun _ _ => rfl)) pe_int (fun _ _ => rfl)) pe_int (nomark _))
          (pss_one (ps_expr (pe_bm PySem.F.plainAttrs_list PySem.F.slot_list_append PySem.F.type_list_append mt_append (pv 1) (pa_cons (pe_op op_add_str (pe_cl h__law_written (hr.mono (by decide)) (pa_cons (pe_ix ix_tup (pv 0) (pv 2) (fun _ _ => rfl)) pa_nil)) (pe_ifExp (pt_cmpR op_eq (pv 2) pe_int (nomark _)) pe_str (pe_ifExp (pt_cmpR op_eq (pv 2) pe_int (nomark _)) pe_str (pe_op op_add_str pe_str (pe_callTy call_str_int (by rfl) C.f_str (by decide +kernel) (pa_cons (pv 2) pa_nil)))))) pa_nil))))
          pss_nil)))
      (pss_one (ps_ret (pe_ifExp (pt_cmpR (op_neD hr.units) (pv 1) (pe_lst pa_nil) (nomark _)) (pe_join pe_str (pv 1)) pe_str))))), fun ds T h => ?_⟩
  obtain ⟨cs, rfl, ok, hT⟩ := h
  have hl := ok.len
  refine ds_cell (by show 1 < 3; decide) (dn_lst (DA.of dap_nil ⟨by decide, rfl, fun p nc => ?_⟩))
  refine ds_forq (fun ρ' => ∃ s : Sl, ρ' = [.va (.tuple (cs.map eR)), .ce p ((partsP cs cs.length).map .str), s]) (ds_for (fun ds i ρ' => ds = ((List.range cs.length).map fun i : Nat => PyData.int ((cs.length : Int) - 1 - (i : Int))) ∧ ∃ (s : Sl) (acc : List Str), ρ' = [.va (.tuple (cs.map eR)), .ce p (acc.map .str), s] ∧ acc.length ≤ i ∧ acc ++ partsP cs (cs.length - i) = partsP cs cs.length) (di_rng3 (DA.of (dap_cons (dp_sub (dp_lenT (dp_var rfl)) dp_int) (dap_cons (dp_neg dp_int) (dap_cons (dp_neg dp_int) dap_nil))) ⟨_, _, rfl, ?_, ⟨?_, .no, [], rfl, Nat.zero_le _, rfl⟩, ?_, ?_⟩))) ?_
  · rw [List.length_map]; omega
  · rw [List.length_map]
    rw [show ((cs.length : Int) - 1 - -1).toNat = cs.length by omega]
  · rintro i d ρ2 hd ⟨eds, s, acc, rfl, hacc, e⟩
    rw [eds] at hd
    have hi : i < cs.length := by
      have := (List.getElem?_eq_some_iff.mp hd).1
      rw [List.length_map, List.length_range] at this
      exact this
    rw [List.getElem?_map, List.getElem?_range hi] at hd
    have hk : (cs.length : Int) - 1 - (i : Int) = ((cs.length - 1 - i : Nat) : Int) := by omega
    have hd' : d = .int ((cs.length : Int) - 1 - (i : Int)) := (Option.some.inj hd).symm
    rw [hk] at hd'
    subst hd'
    refine dg_name ?_
    have hk2 : cs.length - i = (cs.length - 1 - i) + 1 := by omega
    have hk3 : cs.length - (i + 1) = cs.length - 1 - i := by omega
    have hat : atI (cs.map eR) ((cs.length - 1 - i : Nat) : Int) = some (eR (cs.getD (cs.length - 1 - i) 0)) := atI_poly rfl (by omega)
    generalize hkk : cs.length - 1 - i = k at hat hk2 hk3
    have hk9 : k ≤ 100 := by omega
    have hs := log_small hk9
    have tq := getD_told ok.told k
    have tl1 := partT_len ok.told hk9
    have wl := wF_len tq
    have sl := str_len hs
    generalize hq : cs.getD k 0 = q at hat tq wl tl1
    refine ds_ifq (p := q ≠ 0) (DTP.is (dtp_test (dp_neI (dp_ixT (ds := [.int q.num, .int (q.den : Int)]) (dp_ixT (dp_var rfl) (dp_var rfl) hat) dp_int) dp_int)) (by rw [decide_eq_decide.mpr (Rat.num_eq_zero (q := q)), ← decide_not])) (fun z => ?_) fun z => ?_
    · rw [hk2, partsP_yes (by rw [hq]; exact z), hq] at e
      refine ds_app rfl (d := .str (partT q k)) (dp_addS (dp_call (dap_cons (dp_ixT (dp_var rfl) (dp_var rfl) hat) dap_nil) ⟨q, rfl, tq, rfl⟩) (DP.is (dp_ite (p := k = 0) (DTP.is (dtp_test (dp_eqI (dp_var rfl) dp_int)) (decide_eq_decide.mpr (by omega))) (fun _ => dp_str) fun _ => dp_ite (p := k = 1) (DTP.is (dtp_test (dp_eqI (dp_var rfl) dp_int)) (decide_eq_decide.mpr (by omega))) (fun _ => dp_str) fun _ => dp_addS dp_str (dp_strI (dp_var rfl) (log_300 hs)) ?_) (pwL_ite k)) ?_) ?_ ?_
      · have : (" x" : Str).length = 2 := by decide
        rw [this]; exact Nat.le_trans (Nat.add_le_add_left sl 2) (by decide)
      · exact Nat.le_trans (Nat.add_le_add wl (pwL_len hk9)) (by decide)
      · rw [List.length_map]; exact Nat.lt_of_le_of_lt hacc (Nat.lt_of_lt_of_le hi (Nat.le_trans hl (by decide)))
      · refine ⟨eds, .va (.int (k : Int)), acc ++ [partT q k], ?_, ?_, ?_⟩
        · rw [List.map_append]; rfl
        · rw [List.length_append]; show acc.length + 1 ≤ _; omega
        · rw [hk3, List.append_assoc]; exact e
    · refine ds_next ⟨eds, _, acc, rfl, by omega, ?_⟩
      rw [hk2, partsP_no (by rw [hq]; exact z)] at e
      rw [hk3]; exact e
  · rintro ρ2 ⟨eds, s, acc, rfl, hacc, e⟩
    refine ⟨s, ?_⟩
    rw [eds, List.length_map, List.length_range, Nat.sub_self] at e
    rw [← e]
    rw [show partsP cs 0 = [] from rfl, List.append_nil]
  · rintro ρ' ⟨s, rfl⟩
    refine ds_freeze (i := 1) rfl ?_
    refine ds_retp (DP.is (dp_ite (p := partsP cs cs.length ≠ []) (DTP.is (dtp_test (dp_neD (dp_var rfl) (dp_lst dap_nil) (sh_strs (partsP_ok cs cs.length)) rfl)) ne_strs) (fun _ => dp_join dp_str (dp_var rfl) (sum_ok ok)) fun _ => dp_str) (polyT_ite cs rfl)) hT
def c_text_of_surd : Call := fun ds T => ∃ (f : Nat) (a b : Rat), ds = [.int (f : Int), eQ a b] ∧ Told a ∧ Told b ∧ f < 10 ^ 300 ∧ T (.str (surdT f a b))
theorem len_text_of_surd {ds T} (h : c_text_of_surd ds T) : ds.length = 2 := by obtain ⟨_, _, _, rfl, _⟩ := h; rfl
theorem le1600 {n : Nat} (h : n ≤ 1600) : n ≤ sizeLine := Nat.le_trans h (by decide)
abbrev N_text_of_surd : List Str := ["field", "one", "sign"]
theorem sc_text_of_surd : FnScope N_text_of_surd ["field", "one"] (defScope s_text_of_surd) := ⟨rfl, rfl, rfl, by decide +kernel, rfl, by decide +kernel, by decide +kernel⟩
set_option maxHeartbeats 2000000 in
theorem ok_text_of_surd {Pg : Program} {w : World} {K : Fg} {mg : Str → Option Value} {base : Heap} (C : Cs K mg) (D0 : DfX K mg "text_of_surd" s_text_of_surd ["field", "one"]) (h_fraction_text : OkF Pg w K mg base "fraction_text" 3 ["one"] (spP K c_fraction_text)) (h_integer_text : OkF Pg w K mg base "integer_text" 2 ["one"] (spP K c_integer_text)) : OkF Pg w K mg base "text_of_surd" 4 ["field", "one"] (spP K c_text_of_surd) := by
  obtain ⟨v_MINUS, u_MINUS, m_MINUS, r_MINUS, d_MINUS⟩ := C.d_MINUS
  obtain ⟨v_PLUS, u_PLUS, m_PLUS, r_PLUS, d_PLUS⟩ := C.d_PLUS
  obtain ⟨v_ROOT_SIGN, u_ROOT_SIGN, m_ROOT_SIGN, r_ROOT_SIGN, d_ROOT_SIGN⟩ := C.d_ROOT_SIGN
  refine okP D0 sc_text_of_surd (fun ds T h => len_text_of_surd h) fun f cdv A outer s H E hr => ⟨_, (pss_cons (ps_if (pt_cmpR op_eq (pe_ix ix_tup (pe_ix ix_tup (pv 1) pe_int (fun _ _ => rfl)) pe_int (fun _ _ => rfl)) pe_int (nomark _))
        (pss_one (ps_ret (pe_cl h_fraction_text (hr.mono (by decide)) (pa_cons (pe_ix ix_tup (pv 1) pe_int (fun _ _ => rfl)) pa_nil))))
        pss_nil)
      (pss_cons (ps_set (i := 2) sc_text_of_surd.nd rfl (.inl rfl) (pe_ifExp (pt_cmpR op_lt (pe_ix ix_tup (pe_ix ix_tup (pv 1) pe_int (fun _ _ => rfl)) pe_int (fun _ _ => rfl)) pe_int (nomark _)) (pe_glob (by rfl) m_MINUS r_MINUS) (pe_glob (by rfl) m_PLUS r_PLUS)))
      (pss_one (ps_ret (pe_op op_add_str (pe_op op_add_str (pe_op op_add_str (pe_op op_add_str (pe_cl h_fraction_text (hr.mono (by decide)) (pa_cons (pe_ix ix_tup (pv 1) pe_int (fun _ _ => rfl)) pa_nil)) (pv 2)) (pe_cl h_fraction_text (hr.mono (by decide)) (pa_cons (pe_tup (pa_cons (pe_callB call_abs (by rfl) C.f_abs (by decide +kernel) (pa_cons (pe_ix ix_tup (pe_ix ix_tup (pv 1) pe_int (fun _ _ => rfl)) pe_int (fun _ _ => rfl)) pa_nil)) (pa_cons (pe_ix ix_tup (pe_ix ix_tup (pv 1) pe_int (fun _ _ => rfl)) pe_int (fun _ _ => rfl)) pa_nil))) pa_nil))) (pe_glob (by rfl) m_ROOT_SIGN r_ROOT_SIGN)) (pe_cl h_integer_text (hr.mono (by decide)) (pa_cons (pv 0) pa_nil))))))), fun ds T h => ?_⟩
  obtain ⟨f', a, b, rfl, ha, hb, hf, hT⟩ := h
  have hfi : ((f' : Int)).natAbs < 10 ^ 300 := by rw [Int.natAbs_natCast]; exact hf
  obtain ⟨l0, l1, l2, l3⟩ := surdT_len ha hb hf
  have hab := absR_sz hb
  refine ds_whenq (p := b.num = 0) (dtp_test (dp_eqI (dp_ixT (ds := [.int b.num, .int (b.den : Int)]) (dp_ixT (ds := [eR a, eR b]) (dp_var rfl) dp_int) dp_int) dp_int)) (fun z => ?_) fun z => ?_
  · have e : surdT f' a b = wF a := if_pos z
    rw [e] at hT
    exact ds_retp (dp_call (dap_cons (dp_ixT (ds := [eR a, eR b]) (dp_var rfl) dp_int) dap_nil) ⟨a, rfl, ha, rfl⟩) hT
  · have e : surdT f' a b = wF a ++ (if b.num < 0 then ("-" : Str) else ("+" : Str)) ++ wF (absR b) ++ "r" ++ Str.ofString (toString (f' : Int)) := if_neg z
    rw [e] at l0 hT
    refine ds_let (DP.is (dp_ite (p := b.num < 0) (dtp_test (dp_lt (dp_ixT (ds := [.int b.num, .int (b.den : Int)]) (dp_ixT (ds := [eR a, eR b]) (dp_var rfl) dp_int) dp_int) dp_int)) (fun _ => dp_c d_MINUS) fun _ => dp_c d_PLUS) DL.ite_str) ?_
    refine ds_retp (dp_addS (dp_addS (dp_addS (dp_addS (dp_call (dap_cons (dp_ixT (ds := [eR a, eR b]) (dp_var rfl) dp_int) dap_nil) ⟨a, rfl, ha, rfl⟩) (dp_var rfl) ?_) (dp_call (dap_cons (DP.is (dp_tup (dap_cons (dp_abs (dp_ixT (ds := [.int b.num, .int (b.den : Int)]) (dp_ixT (ds := [eR a, eR b]) (dp_var rfl) dp_int) dp_int)) (dap_cons (dp_ixT (ds := [.int b.num, .int (b.den : Int)]) (dp_ixT (ds := [eR a, eR b]) (dp_var rfl) dp_int) dp_int) dap_nil))) (absR_eq b)) dap_nil) ⟨absR b, rfl, hab, rfl⟩) ?_) (dp_c d_ROOT_SIGN) ?_) (dp_call (dap_cons (dp_var rfl) dap_nil) ⟨(f' : Int), rfl, hfi, rfl⟩) ?_) hT
    · rw [← app_len]; exact le1600 l1
    · rw [← app_len]; exact le1600 l2
    · rw [← app_len]; exact le1600 l3
    · rw [← app_len]; exact le1600 l0
def c_law_surd_written : Call := c_text_of_surd
theorem len_law_surd_written {ds T} (h : c_law_surd_written ds T) : ds.length = 2 := len_text_of_surd h
abbrev N_law_surd_written : List Str := ["field", "one", "size"]
theorem sc_law_surd_written : FnScope N_law_surd_written ["field", "one"] (defScope s_law_surd_written) := ⟨rfl, rfl, rfl, by decide +kernel, rfl, by decide +kernel, by decide +kernel⟩
set_option maxHeartbeats 2000000 in
theorem ok_law_surd_written {Pg : Program} {w : World} {K : Fg} {mg : Str → Option Value} {base : Heap} (C : Cs K mg) (D0 : DfX K mg "_law_surd_written" s_law_surd_written ["field", "one"]) (h__law_written : OkF Pg w K mg base "_law_written" 1 ["one"] (spP K c_law_written)) : OkF Pg w K mg base "_law_surd_written" 2 ["field", "one"] (spP K c_law_surd_written) := by
  refine okP D0 sc_law_surd_written (fun ds T h => len_law_surd_written h) fun f cdv A outer s H E hr => ⟨_, (pss_cons (ps_if (pt_cmpR op_eq (pe_ix ix_tup (pe_ix ix_tup (pv 1) pe_int (fun _ _ => rfl)) pe_int (fun _ _ => rfl)) pe_int (nomark _))
        (pss_one (ps_ret (pe_cl h__law_written (hr.mono (by decide)) (pa_cons (pe_ix ix_tup (pv 1) pe_int (fun _ _ => rfl)) pa_nil))))
        pss_nil)
      (pss_cons (ps_set (i := 2) sc_law_surd_written.nd rfl (.inl rfl) (pe_tup (pa_cons (pe_callB call_abs (by rfl) C.f_abs (by decide +kernel) (pa_cons (pe_ix ix_tup (pe_ix ix_tup (pv 1) pe_int (fun _ _ => rfl)) pe_int (fun _ _ => rfl)) pa_nil)) (pa_cons (pe_ix ix_tup (pe_ix ix_tup (pv 1) pe_int (fun _ _ => rfl)) pe_int (fun _ _ => rfl)) pa_nil))))
      (pss_one (ps_ret (pe_op op_add_str (pe_op op_add_str (pe_op op_add_str (pe_op op_add_str (pe_cl h__law_written (hr.mono (by decide)) (pa_cons (pe_ix ix_tup (pv 1) pe_int (fun _ _ => rfl)) pa_nil)) (pe_ifExp (pt_cmpR op_lt (pe_ix ix_tup (pe_ix ix_tup (pv 1) pe_int (fun _ _ => rfl)) pe_int (fun _ _ => rfl)) pe_int (nomark _)) pe_str pe_str)) (pe_cl h__law_written (hr.mono (by decide)) (pa_cons (pv 2) pa_nil))) pe_str) (pe_callTy call_str_int (by rfl) C.f_str (by decide +kernel) (pa_cons (pv 0) pa_nil))))))), fun ds T h => ?_⟩
  obtain ⟨f', a, b, rfl, ha, hb, hf, hT⟩ := h
  have hfi : ((f' : Int)).natAbs < 10 ^ 300 := by rw [Int.natAbs_natCast]; exact hf
  obtain ⟨l0, l1, l2, l3⟩ := surdT_len ha hb hf
  have hab := absR_sz hb
  refine ds_whenq (p := b.num = 0) (dtp_test (dp_eqI (dp_ixT (ds := [.int b.num, .int (b.den : Int)]) (dp_ixT (ds := [eR a, eR b]) (dp_var rfl) dp_int) dp_int) dp_int)) (fun z => ?_) fun z => ?_
  · have e : surdT f' a b = wF a := if_pos z
    rw [e] at hT
    exact ds_retp (dp_call (dap_cons (dp_ixT (ds := [eR a, eR b]) (dp_var rfl) dp_int) dap_nil) ⟨a, rfl, ha, rfl⟩) hT
  · have e : surdT f' a b = wF a ++ (if b.num < 0 then ("-" : Str) else ("+" : Str)) ++ wF (absR b) ++ "r" ++ Str.ofString (toString (f' : Int)) := if_neg z
    rw [e] at l0 hT
    refine ds_let (DP.is (dp_tup (dap_cons (dp_abs (dp_ixT (ds := [.int b.num, .int (b.den : Int)]) (dp_ixT (ds := [eR a, eR b]) (dp_var rfl) dp_int) dp_int)) (dap_cons (dp_ixT (ds := [.int b.num, .int (b.den : Int)]) (dp_ixT (ds := [eR a, eR b]) (dp_var rfl) dp_int) dp_int) dap_nil))) (absR_eq b)) ?_
    refine ds_retp (dp_addS (dp_addS (dp_addS (dp_addS (dp_call (dap_cons (dp_ixT (ds := [eR a, eR b]) (dp_var rfl) dp_int) dap_nil) ⟨a, rfl, ha, rfl⟩) (DP.is (dp_ite (p := b.num < 0) (dtp_test (dp_lt (dp_ixT (ds := [.int b.num, .int (b.den : Int)]) (dp_ixT (ds := [eR a, eR b]) (dp_var rfl) dp_int) dp_int) dp_int)) (fun _ => dp_str) fun _ => dp_str) DL.ite_str) ?_) (dp_call (dap_cons (dp_var rfl) dap_nil) ⟨absR b, rfl, hab, rfl⟩) ?_) dp_str ?_) (dp_strI (dp_var rfl) (log_300 hfi)) ?_) hT
    · rw [← app_len]; exact le1600 l1
    · rw [← app_len]; exact le1600 l2
    · rw [← app_len]; exact le1600 l3
    · rw [← app_len]; exact le1600 l0
def c_surd_text : Call := fun ds T => ∃ (f : Nat) (a b : Rat), ds = [.int (f : Int), eQ a b] ∧ Sd f a b ∧ f < 10 ^ 300 ∧ isField f = true ∧ T (.str (surdT f a b))
theorem len_surd_text {ds T} (h : c_surd_text ds T) : ds.length = 2 := by obtain ⟨_, _, _, rfl, _⟩ := h; rfl
abbrev N_surd_text : List Str := ["field", "one"]
theorem sc_surd_text : FnScope N_surd_text ["field", "one"] (defScope s_surd_text) := ⟨rfl, rfl, rfl, by decide +kernel, rfl, by decide +kernel, by decide +kernel⟩
set_option maxHeartbeats 2000000 in
theorem ok_surd_text {Pg : Program} {w : World} {K : Fg} {mg : Str → Option Value} {base : Heap} (C : Cs K mg) (D0 : DfX K mg "surd_text" s_surd_text ["field", "one"]) (h_check_field : OkF Pg w K mg base "check_field" 4 ["field"] (spP K c_check_field)) (h_check_surd : OkF Pg w K mg base "check_surd" 5 ["field", "value"] (spP K c_check_surd)) (h_text_of_surd : OkF Pg w K mg base "text_of_surd" 4 ["field", "one"] (spP K c_text_of_surd)) : OkF Pg w K mg base "surd_text" 6 ["field", "one"] (spP K c_surd_text) := by
  refine okP D0 sc_surd_text (fun ds T h => len_surd_text h) fun f cdv A outer s H E hr => ⟨_, (pss_cons (ps_expr (pe_cl h_check_field (hr.mono (by decide)) (pa_cons (pv 0) pa_nil)))
      (pss_cons (ps_expr (pe_cl h_check_surd (hr.mono (by decide)) (pa_cons (pv 0) (pa_cons (pv 1) pa_nil))))
      (pss_one (ps_ret (pe_cl h_text_of_surd (hr.mono (by decide)) (pa_cons (pv 0) (pa_cons (pv 1) pa_nil))))))), fun ds T h => ?_⟩
  obtain ⟨f', a, b, rfl, hs, hf, hF, hT⟩ := h
  refine ds_seq (ds_drop (DE.of (dp_call (dap_cons (dp_var rfl) dap_nil) ⟨f', rfl, hs.f1, hf, hF, rfl⟩) ?_))
  refine ds_seq (ds_drop (DE.of (dp_call (dap_cons (dp_var rfl) (dap_cons (dp_var rfl) dap_nil)) ⟨f', a, b, rfl, hs, rfl⟩) ?_))
  exact ds_retp (dp_call (dap_cons (dp_var rfl) (dap_cons (dp_var rfl) dap_nil)) ⟨f', a, b, rfl, hs.ta, hs.tb, hf, rfl⟩) hT
def c_split_place : Call := fun ds T => ∃ x : Str, ds = [.str x] ∧ x.length ≤ 100000 ∧ ∀ r, LastS (tl x) r → T (oN r)
theorem len_split_place {ds T} (h : c_split_place ds T) : ds.length = 1 := by obtain ⟨_, rfl, _⟩ := h; rfl
abbrev N_split_place : List Str := ["text", "at"]
theorem sc_split_place : FnScope N_split_place ["text"] (defScope s_split_place) := ⟨rfl, rfl, rfl, by decide +kernel, rfl, by decide +kernel, by decide +kernel⟩
set_option maxHeartbeats 2000000 in
theorem ok_split_place {Pg : Program} {w : World} {K : Fg} {mg : Str → Option Value} {base : Heap} (C : Cs K mg) (D0 : DfX K mg "split_place" s_split_place ["text"])  : OkF Pg w K mg base "split_place" 1 ["text"] (spP K c_split_place) := by
  obtain ⟨v_MINUS, u_MINUS, m_MINUS, r_MINUS, d_MINUS⟩ := C.d_MINUS
  obtain ⟨v_PLUS, u_PLUS, m_PLUS, r_PLUS, d_PLUS⟩ := C.d_PLUS
  refine okP D0 sc_split_place (fun ds T h => len_split_place h) fun f cdv A outer s H E hr => ⟨_, (pss_cons (ps_for PassesOwn.never rfl (pi_range3 (by rfl) C.f_range (pa_cons (pe_op op_sub (pe_callB call_len_str (by rfl) C.f_len (by decide +kernel) (pa_cons (pv 0) pa_nil)) pe_int) (pa_cons pe_int (pa_cons (pe_un un_neg pe_int) pa_nil)))) (pg_name (i := 1) sc_split_place.nd rfl (.inl rfl))
        (pss_one (ps_if (pt_cmpR op_in_seq (pe_ix ix_str (pv 0) (pv 1) (fun _ _ => rfl)) (pe_tup (pa_cons (pe_glob (by rfl) m_PLUS r_PLUS) (pa_cons (pe_glob (by rfl) m_MINUS r_MINUS) pa_nil))) rfl)
          (pss_one (ps_ret (pv 1)))
          pss_nil)))
      (pss_one (ps_ret pe_non))), fun ds T h => ?_⟩
  obtain ⟨x, rfl, hx, hT⟩ := h
  have hz : x.length ≤ sizeLine := Nat.le_trans hx (by decide)
  have hlen := len_tl x
  refine ds_forq (fun ρ' => LastS (tl x) none) (ds_for (fun ds i ρ' => ds = ((List.range (x.length - 1)).map fun i : Nat => PyData.int ((x.length : Int) - 1 - (i : Int))) ∧ ∃ s : Sl, ρ' = [.va (.str x), s] ∧ ∀ j c, x.length - i ≤ j → (tl x)[j]? = some c → ¬ sg c) (di_rng3 (DA.of (dap_cons (dp_sub (dp_lenS (dp_var rfl) hz) dp_int) (dap_cons dp_int (dap_cons (dp_neg dp_int) dap_nil))) ⟨_, _, rfl, by omega, ⟨?_, .no, rfl, ?_⟩, ?_, ?_⟩))) ?_
  · rw [show ((x.length : Int) - 1 - 0).toNat = x.length - 1 by omega]
  · intro j c hj hc
    have := (List.getElem?_eq_some_iff.mp hc).1
    omega
  · rintro i d ρ2 hd ⟨eds, s, rfl, hI⟩
    rw [eds] at hd
    have hi : i < x.length - 1 := by
      have := (List.getElem?_eq_some_iff.mp hd).1
      rw [List.length_map, List.length_range] at this
      exact this
    rw [List.getElem?_map, List.getElem?_range hi] at hd
    have hk : (x.length : Int) - 1 - (i : Int) = ((x.length - 1 - i : Nat) : Int) := by omega
    have hd' : d = .int ((x.length : Int) - 1 - (i : Int)) := (Option.some.inj hd).symm
    rw [hk] at hd'
    subst hd'
    obtain ⟨c, hc⟩ : ∃ c, (tl x)[x.length - 1 - i]? = some c := ⟨_, List.getElem?_eq_getElem (by omega)⟩
    refine dg_name ?_
    refine ds_ifq (p := sg c) (DTP.is (dtp_test (dp_inTS (ys := [("+" : Str), ("-" : Str)]) (dp_ixS (dp_var rfl) (dp_var rfl) hz (atI_at rfl hc)) (dp_tup (dap_cons (dp_c d_PLUS) (dap_cons (dp_c d_MINUS) dap_nil))))) (sg_in c)) (fun z => ?_) fun z => ?_
    · exact ds_retp (dp_var rfl) (hT (some (x.length - 1 - i)) ⟨by omega, ⟨c, hc, z⟩, fun j c hj hcj => hI j c (by omega) hcj⟩)
    · refine ds_next ⟨eds, _, rfl, fun j c' hj hc' => ?_⟩
      by_cases e : j = x.length - 1 - i
      · rw [e, hc] at hc'
        cases hc'
        exact z
      · exact hI j c' (by omega) hc'
  · rintro ρ2 ⟨eds, s, rfl, hI⟩
    rw [eds, List.length_map, List.length_range] at hI
    intro j c hj hc
    exact hI j c (by omega) hc
  · intro ρ' hL
    exact ds_retp dp_non (hT none hL)

end H75
namespace H75
open PySem PySem.Spec PyProof.Rows L2 DL
open TL
def FL : Int → Bool := fun n => isField n.toNat
def c_read_surd : Call := fun ds T => ∃ x : Str, ds = [.str x] ∧ x.length ≤ 10000 ∧ T (oS (lawS FL (tl x)))
theorem len_read_surd {ds T} (h : c_read_surd ds T) : ds.length = 1 := by obtain ⟨_, rfl, _⟩ := h; rfl
theorem r_ok : ("r" : Str).cps.all (· < 256) = true := by decide +kernel
theorem int_nat {n : Int} (h : 1 < n) : ((n.toNat : Nat) : Int) = n := by omega
theorem FL_field {n : Int} (h1 : 1 < n) (h2 : n.natAbs < 10 ^ 300) {T : D → Prop} (hT : T (.bool (FL n))) : c_is_field [.int n] T := ⟨n.toNat, by rw [int_nat h1], by omega, by
  have : n.toNat = n.natAbs := by omega
  rw [this]; exact h2, hT⟩
theorem rdI_lt {l : List Nat} {n : Int} (h : rdI l = some n) : n.natAbs < 10 ^ 300 := by
  obtain ⟨a, b⟩ := rdI_inv h
  rw [← b]; exact it_lt a
abbrev N_read_surd : List Str := ["text", "at", "number", "parts", "first", "by", "field"]
theorem sc_read_surd : FnScope N_read_surd ["text"] (defScope s_read_surd) := ⟨rfl, rfl, rfl, by decide +kernel, rfl, by decide +kernel, by decide +kernel⟩
set_option maxHeartbeats 2000000 in
theorem ok_read_surd {Pg : Program} {w : World} {K : Fg} {mg : Str → Option Value} {base : Heap} (C : Cs K mg) (D0 : DfX K mg "read_surd" s_read_surd ["text"]) (h_split_place : OkF Pg w K mg base "split_place" 1 ["text"] (spP K c_split_place)) (h_read_fraction : OkF Pg w K mg base "read_fraction" 3 ["text"] (spP K c_read_fraction)) (h_read_integer : OkF Pg w K mg base "read_integer" 1 ["text"] (spP K c_read_integer)) (h_is_integer : OkF Pg w K mg base "is_integer" 1 ["value"] (spP K c_is_integer)) (h_is_field : OkF Pg w K mg base "is_field" 3 ["value"] (spP K c_is_field)) : OkF Pg w K mg base "read_surd" 4 ["text"] (spP K c_read_surd) := by
  obtain ⟨v_NOTHING, u_NOTHING, m_NOTHING, r_NOTHING, d_NOTHING⟩ := C.d_NOTHING
  obtain ⟨v_ROOT_SIGN, u_ROOT_SIGN, m_ROOT_SIGN, r_ROOT_SIGN, d_ROOT_SIGN⟩ := C.d_ROOT_SIGN
  obtain ⟨v_PLUS, u_PLUS, m_PLUS, r_PLUS, d_PLUS⟩ := C.d_PLUS
  refine okP D0 sc_read_surd (fun ds T h => len_read_surd h) fun f cdv A outer s H E hr => ⟨_, (pss_cons (ps_if (pt_not (pt_val (pe_callB call_isi (by rfl) C.f_isinstance (by decide +kernel) (pa_cons (pv 0) (pa_cons (pe_bltn (v := .ty "str") (by rfl) C.f_str (by decide +kernel) rfl) pa_nil)))))
        (pss_one (ps_ret pe_non))
        pss_nil)
      (pss_cons (ps_set (i := 1) sc_read_surd.nd rfl (.inl rfl) (pe_cl h_split_place (hr.mono (by decide)) (pa_cons (pv 0) pa_nil)))
      (pss_cons (ps_if (pt_cmpR op_isN (pv 1) pe_non (nomark _))
        (pss_cons (ps_set (i := 2) sc_read_surd.nd rfl (.inl rfl) (pe_cl h_read_fraction (hr.mono (by decide)) (pa_cons (pv 0) pa_nil)))
        (pss_one (ps_ret (pe_ifExp (pt_cmpR op_isN (pv 2) pe_non (nomark _)) pe_non (pe_tup (pa_cons pe_int (pa_cons (pe_tup (pa_cons (pv 2) (pa_cons (pe_glob (by rfl) m_NOTHING r_NOTHING) pa_nil))) pa_nil)))))))
        pss_nil)
      (pss_cons (ps_set (i := 3) sc_read_surd.nd rfl (.inl rfl) (pe_split (pe_slice sl_str (pv 0) (po_some (pe_op op_add (pv 1) pe_int)) po_none) (pe_glob (by rfl) m_ROOT_SIGN r_ROOT_SIGN)))
      (pss_cons (ps_if (pt_cmpR op_ne (pe_callB call_len_seq (by rfl) C.f_len (by decide +kernel) (pa_cons (pv 3) pa_nil)) pe_int (nomark _))
        (pss_one (ps_ret pe_non))
        pss_nil)
      (pss_cons (ps_par3 (i := 4) (j := 5) (l := 6) rfl sc_read_surd.nd rfl rfl rfl (by decide) (by decide) (by decide) rfl rfl rfl (pa_cons (pe_cl h_read_fraction (hr.mono (by decide)) (pa_cons (pe_slice sl_str (pv 0) po_none (po_some (pv 1))) pa_nil)) (pa_cons (pe_cl h_read_fraction (hr.mono (by decide)) (pa_cons (pe_ix ix_list (pv 3) pe_int (fun _ _ => rfl)) pa_nil)) (pa_cons (pe_cl h_read_integer (hr.mono (by decide)) (pa_cons (pe_ix ix_list (pv 3) pe_int (fun _ _ => rfl)) pa_nil)) pa_nil))) (by rfl))
      (pss_cons (ps_if (PW.pt (pw_or (pt_cmpR op_isN (pv 4) pe_non (nomark _)) (pw_or (pt_cmpR op_isN (pv 5) pe_non (nomark _)) (pw_or (pt_cmpR op_isN (pv 6) pe_non (nomark _)) (pw_or (pt_cmpR op_lt (pe_ix ix_tup (pv 5) pe_int (fun _ _ => rfl)) pe_int (nomark _)) (pw_or1 (pt_not (pt_val (pe_cl h_is_integer (hr.mono (by decide)) (pa_cons (pv 6) pa_nil))))))))))
        (pss_one (ps_ret pe_non))
        pss_nil)
      (pss_cons (ps_if (PW.pt (pw_or (pt_cmpR op_lt (pv 6) pe_int (nomark _)) (pw_or1 (pt_not (pt_val (pe_cl h_is_field (hr.mono (by decide)) (pa_cons (pv 6) pa_nil)))))))
        (pss_one (ps_ret pe_non))
        pss_nil)
      (pss_one (ps_ret (pe_tup (pa_cons (pv 6) (pa_cons (pe_tup (pa_cons (pv 4) (pa_cons (pe_ifExp (pt_cmpR op_eq (pe_ix ix_str (pv 0) (pv 1) (fun _ _ => rfl)) (pe_glob (by rfl) m_PLUS r_PLUS) (nomark _)) (pv 5) (pe_tup (pa_cons (pe_op op_sub pe_int (pe_ix ix_tup (pv 5) pe_int (fun _ _ => rfl))) (pa_cons (pe_ix ix_tup (pv 5) pe_int (fun _ _ => rfl)) pa_nil)))) pa_nil))) pa_nil))))))))))))), fun ds T h => ?_⟩
  obtain ⟨x, rfl, hx, hT⟩ := h
  have hz : x.length ≤ sizeLine := Nat.le_trans hx (by decide)
  refine ds_when (b := false) (DTP.is (dtp_not (dtp_B (dp_isi (dp_var rfl) kit_ss))) rfl) (fun z => nomatch z) fun _ => ?_
  refine ds_letE (de_call (DA.of (dap_cons (dp_var rfl) dap_nil) ⟨x, rfl, by omega, fun r hr => ?_⟩))
  rw [← lawS_prog FL hr] at hT
  cases r with
  | none =>
    refine ds_when (b := true) (dtp_test (dp_isN (d := .none) (dp_var rfl))) (fun _ => ?_) (fun z => nomatch z)
    refine ds_let (dp_call (dap_cons (dp_var rfl) dap_nil) ⟨x, rfl, by omega, rfl⟩) ?_
    have hT : T (oS ((readF (tl x)).map fun a => ((1 : Int), a, (0 : Rat)))) := hT
    cases q : readF (tl x) with
    | none =>
      rw [q] at hT
      exact ds_retp (dp_if (b := true) (dtp_test (dp_isN (d := .none) (dp_var rfl))) (fun _ => dp_non) (fun z => nomatch z)) hT
    | some a =>
      rw [q] at hT
      exact ds_retp (dp_if (b := false) (dtp_test (dp_isN (d := eR a) (dp_var rfl))) (fun z => nomatch z) (fun _ => dp_tup (dap_cons dp_int (dap_cons (dp_tup (dap_cons (dp_var rfl) (dap_cons (dp_c d_NOTHING) dap_nil))) dap_nil)))) hT
  | some p =>
    obtain ⟨p1, ⟨c, hc, hsg⟩, p3⟩ := hr
    have hp : p < (tl x).length := (List.getElem?_eq_some_iff.mp hc).1
    refine ds_when (b := false) (dtp_test (dp_isN (d := .int (p : Int)) (dp_var rfl))) (fun z => nomatch z) (fun _ => ?_)
    have hcl := cutS_length x (some ((p : Int) + 1)) none
    refine ds_let (dp_split (dp_sliceS (dp_var rfl) hz (do_some (dp_add (dp_var rfl) dp_int)) do_none) (dp_c d_ROOT_SIGN) (by decide) (Nat.le_trans (Nat.add_le_add_right (Nat.le_trans hcl hx) 2) (by decide))) ?_
    rw [progS_parts (tl_dropS x p)] at hT
    have hsh : ∀ a ∈ Txt.split (cutS x (some ((p : Int) + 1)) none) "r", a.length ≤ 100000 := fun a ha => Nat.le_trans (split_short r_tl r_ok ha) (by omega)
    generalize Txt.split (cutS x (some ((p : Int) + 1)) none) "r" = ps at hT hsh
    have hno : ps.length ≠ 2 → progP FL (tl x) p ps = none := fun hn => by
      match ps, hn with
      | [], _ => rfl
      | [a], _ => rfl
      | [a, b], hn => exact absurd rfl hn
      | a :: b :: c :: r, _ => rfl
    refine ds_whenq (p := ps.length ≠ 2) (DTP.is (dtp_test (dp_neI (dp_lenL (dp_var rfl)) dp_int)) (by rw [List.length_map, ← decide_not]; exact decide_eq_decide.mpr (by omega))) (fun z => ?_) fun z => ?_
    · rw [hno z] at hT
      exact ds_retp dp_non hT
    obtain ⟨s, f', rfl⟩ : ∃ s f', ps = [s, f'] := by
      match ps, z with
      | [], z => exact absurd (by decide) z
      | [a], z => exact absurd (by show 1 ≠ 2; decide) z
      | [a, b], _ => exact ⟨a, b, rfl⟩
      | a :: b :: c :: r, z => exact absurd (by rw [List.length_cons, List.length_cons, List.length_cons]; omega) z
    have hct := cutS_length x none (some (p : Int))
    have etk : tl (cutS x none (some (p : Int))) = (tl x).take p := tl_take x p
    refine ds_seq (ds_par3 (DA.of (dap_cons (dp_call (dap_cons (dp_sliceS (dp_var rfl) hz do_none (do_some (dp_var rfl))) dap_nil) ⟨_, rfl, by omega, rfl⟩) (dap_cons (dp_call (dap_cons (dp_ixL (d := .str s) (dp_var rfl) dp_int (by rfl)) dap_nil) ⟨_, rfl, hsh s (by simp), rfl⟩) (dap_cons (dp_call (dap_cons (dp_ixL (d := .str f') (dp_var rfl) dp_int (by rfl)) dap_nil) ⟨_, rfl, hsh f' (by simp), rfl⟩) dap_nil))) ⟨_, _, _, rfl, ?_⟩))
    rw [etk]
    have hT : T (oS (match rdI (tl f') with
      | some n => fitS FL n ((tl x).getD p 0) (readF ((tl x).take p)) (readF (tl s))
      | none => none)) := hT
    have eg : (tl x).getD p 0 = c := by rw [List.getD_eq_getElem?_getD, hc]; rfl
    rw [eg] at hT
    have hat := atI_at (x := x) (i := (p : Int)) rfl hc
    cases q1 : readF ((tl x).take p) with
    | none =>
      have e : T .none := by
        rw [q1] at hT
        cases q3 : rdI (tl f') with
        | none => rw [q3] at hT; exact hT
        | some n => rw [q3] at hT; exact hT
      exact ds_when (b := true) (dtp_or (a := true) (b := true) (dtp_test (dp_isN (d := .none) (dp_var rfl))) (fun z => nomatch z)) (fun _ => ds_retp dp_non e) (fun z => nomatch z)
    | some a =>
      cases q2 : readF (tl s) with
      | none =>
        have e : T .none := by
          rw [q1, q2] at hT
          cases q3 : rdI (tl f') with
          | none => rw [q3] at hT; exact hT
          | some n => rw [q3] at hT; exact hT
        exact ds_when (b := true) (dtp_or (a := false) (b := true) (dtp_test (dp_isN (d := eR a) (dp_var rfl))) fun _ => dtp_or (a := true) (b := true) (dtp_test (dp_isN (d := .none) (dp_var rfl))) (fun z => nomatch z)) (fun _ => ds_retp dp_non e) (fun z => nomatch z)
      | some b =>
        cases q3 : rdI (tl f') with
        | none =>
          have e : T .none := by rw [q3] at hT; exact hT
          exact ds_when (b := true) (dtp_or (a := false) (b := true) (dtp_test (dp_isN (d := eR a) (dp_var rfl))) fun _ => dtp_or (a := false) (b := true) (dtp_test (dp_isN (d := eR b) (dp_var rfl))) fun _ => dtp_or (a := true) (b := true) (dtp_test (dp_isN (d := .none) (dp_var rfl))) (fun z => nomatch z)) (fun _ => ds_retp dp_non e) (fun z => nomatch z)
        | some n =>
          rw [q1, q2, q3] at hT
          have hT : T (oS (if 0 < b.num ∧ 1 < n ∧ FL n = true then some (n, a, if c = 43 then b else -b) else none)) := hT
          have hn := rdI_lt q3
          refine ds_whenq (p := b.num < 1) (DTP.is (dtp_or (a := false) (b := decide (b.num < 1)) (dtp_test (dp_isN (d := eR a) (dp_var rfl))) fun _ => dtp_or (a := false) (b := decide (b.num < 1)) (dtp_test (dp_isN (d := eR b) (dp_var rfl))) fun _ => dtp_or (a := false) (b := decide (b.num < 1)) (dtp_test (dp_isN (d := .int n) (dp_var rfl))) fun _ => DTP.is (dtp_or (a := decide (b.num < 1)) (b := false) (dtp_test (dp_lt (dp_ixT (ds := [.int b.num, .int (b.den : Int)]) (dp_var rfl) dp_int) dp_int)) fun _ => DTP.is (dtp_not (dtp_B (dp_call (d := .bool true) (dap_cons (dp_var rfl) dap_nil) ⟨n, rfl, rfl⟩))) rfl) (by rw [Bool.or_false])) rfl) (fun z => ?_) fun z => ?_
          · rw [if_neg (by omega)] at hT
            exact ds_retp dp_non hT
          · refine ds_whenq (p := n < 2 ∨ FL n = false) ?_ (fun w => ?_) fun w => ?_
            · refine DTP.is (dtp_or (a := decide (n < 2)) (b := !FL n) (dtp_test (dp_lt (dp_var rfl) dp_int)) fun h => dtp_not (dtp_B (dp_call (dap_cons (dp_var rfl) dap_nil) (FL_field (by have := of_decide_eq_false h; omega) hn rfl)))) ?_
              rw [Bool.decide_or]
              cases FL n <;> rfl
            · rw [if_neg (fun h => by
                rcases w with w | w
                · omega
                · rw [h.2.2] at w; cases w)] at hT
              exact ds_retp dp_non hT
            · have w1 : 1 < n := by
                apply Classical.byContradiction
                intro h; exact w (.inl (by omega))
              have w2 : FL n = true := by
                cases q : FL n with
                | true => rfl
                | false => exact absurd (.inr q) w
              rw [if_pos ⟨by omega, w1, w2⟩] at hT
              refine ds_retp (dp_tup (dap_cons (dp_var rfl) (dap_cons (dp_tup (dap_cons (dp_var rfl) (dap_cons (dp_ite (p := c = 43) (DTP.is (dtp_test (dp_eqS (dp_ixS (dp_var rfl) (dp_var rfl) hz hat) (dp_c d_PLUS))) (sgn1_eq plus_tl)) (fun _ => dp_var rfl) fun _ => dp_tup (dap_cons (dp_sub dp_int (dp_ixT (ds := [.int b.num, .int (b.den : Int)]) (dp_var rfl) dp_int)) (dap_cons (dp_ixT (ds := [.int b.num, .int (b.den : Int)]) (dp_var rfl) dp_int) dap_nil))) dap_nil))) dap_nil))) ?_
              by_cases h43 : c = 43
              · rw [if_pos h43] at hT ⊢
                exact hT
              · rw [if_neg h43] at hT ⊢
                rw [Int.zero_sub]
                exact hT

end H75
namespace H75
open PySem PySem.Spec PyProof.Rows L2 DL
open TL
theorem tl_takeI (x : Str) {i : Int} {k : Nat} (h : i = (k : Int)) : tl (cutS x none (some i)) = (tl x).take k := by subst h; exact tl_take x k
theorem tl_dropI (x : Str) {i : Int} {k : Nat} (h : i = (k : Int)) : tl (cutS x (some i) none) = (tl x).drop k := by subst h; exact tl_drop x k
theorem in_mz (y : Str) : decide (y ∈ ([("-" : Str), ("0" : Str)] : List Str)) = decide (tl y = [45] ∨ tl y = [48]) := by
  refine decide_eq_decide.mpr ?_
  rw [List.mem_cons, List.mem_singleton, str_eq, str_eq, min_tl, zero_tl]
theorem oS_some (n : Int) (a b : Rat) : oS (some (n, a, b)) = .tuple [.int n, .tuple [eR a, eR b]] := rfl
def c_law_surd_read : Call := c_read_surd
theorem len_law_surd_read {ds T} (h : c_law_surd_read ds T) : ds.length = 1 := len_read_surd h
abbrev N_law_surd_read : List Str := ["text", "alone", "halves", "field", "at", "first", "second"]
theorem sc_law_surd_read : FnScope N_law_surd_read ["text"] (defScope s_law_surd_read) := ⟨rfl, rfl, rfl, by decide +kernel, rfl, by decide +kernel, by decide +kernel⟩
set_option maxHeartbeats 2000000 in
theorem ok_law_surd_read {Pg : Program} {w : World} {K : Fg} {mg : Str → Option Value} {base : Heap} (C : Cs K mg) (D0 : DfX K mg "_law_surd_read" s_law_surd_read ["text"]) (h__law_read : OkF Pg w K mg base "_law_read" 2 ["word"] (spP K c_law_read)) (h__law_is_integer_text : OkF Pg w K mg base "_law_is_integer_text" 1 ["word"] (spP K c_law_is_integer_text)) (h_is_field : OkF Pg w K mg base "is_field" 3 ["value"] (spP K c_is_field)) (h__law_minus : OkF Pg w K mg base "_law_minus" 1 ["one"] (spP K c_law_minus)) : OkF Pg w K mg base "_law_surd_read" 4 ["text"] (spP K c_law_surd_read) := by
  refine okP D0 sc_law_surd_read (fun ds T h => len_law_surd_read h) fun f cdv A outer s H E hr => ⟨_, (pss_cons (ps_set (i := 1) sc_law_surd_read.nd rfl (.inl rfl) (pe_cl h__law_read (hr.mono (by decide)) (pa_cons (pv 0) pa_nil)))
      (pss_cons (ps_if (pt_cmpR op_notN (pv 1) pe_non (nomark _))
        (pss_one (ps_ret (pe_tup (pa_cons pe_int (pa_cons (pe_tup (pa_cons (pv 1) (pa_cons (pe_tup (pa_cons pe_int (pa_cons pe_int pa_nil))) pa_nil))) pa_nil)))))
        pss_nil)
      (pss_cons (ps_set (i := 2) sc_law_surd_read.nd rfl (.inl rfl) (pe_split (pv 0) pe_str))
      (pss_cons (ps_if (PW.pt (pw_or (pt_cmpR op_ne (pe_callB call_len_seq (by rfl) C.f_len (by decide +kernel) (pa_cons (pv 2) pa_nil)) pe_int (nomark _)) (pw_or (pt_not (pt_val (pe_cl h__law_is_integer_text (hr.mono (by decide)) (pa_cons (pe_ix ix_list (pv 2) pe_int (fun _ _ => rfl)) pa_nil)))) (pw_or1 (pt_cmpR op_in_seq (pe_slice sl_str (pe_ix ix_list (pv 2) pe_int (fun _ _ => rfl)) po_none (po_some pe_int)) (pe_tup (pa_cons pe_str (pa_cons pe_str pa_nil))) rfl)))))
        (pss_one (ps_ret pe_non))
        pss_nil)
      (pss_cons (ps_set (i := 3) sc_law_surd_read.nd rfl (.inl rfl) (pe_callTy call_int_str (by rfl) C.f_int (by decide +kernel) (pa_cons (pe_ix ix_list (pv 2) pe_int (fun _ _ => rfl)) pa_nil)))
      (pss_cons (ps_for PassesOwn.never rfl (pi_range2 (by rfl) C.f_range (pa_cons pe_int (pa_cons (pe_callB call_len_str (by rfl) C.f_len (by decide +kernel) (pa_cons (pe_ix ix_list (pv 2) pe_int (fun _ _ => rfl)) pa_nil)) pa_nil))) (pg_name (i := 4) sc_law_surd_read.nd rfl (.inl rfl))
        (pss_one (ps_if (pt_cmpR op_in_sign (pe_ix ix_str (pe_ix ix_list (pv 2) pe_int (fun _ _ => rfl)) (pv 4) (fun _ _ => rfl)) pe_str rfl)
          (pss_cons (ps_par (i := 5) (j := 6) rfl sc_law_surd_read.nd rfl rfl (by decide) rfl rfl (pa_cons (pe_cl h__law_read (hr.mono (by decide)) (pa_cons (pe_slice sl_str (pe_ix ix_list (pv 2) pe_int (fun _ _ => rfl)) po_none (po_some (pv 4))) pa_nil)) (pa_cons (pe_cl h__law_read (hr.mono (by decide)) (pa_cons (pe_slice sl_str (pe_ix ix_list (pv 2) pe_int (fun _ _ => rfl)) (po_some (pe_op op_add (pv 4) pe_int)) po_none) pa_nil)) pa_nil)) (by rfl))
          (pss_one (ps_if (PW.pt (pw_and (pt_cmpR op_notN (pv 5) pe_non (nomark _)) (pw_and (pt_cmpR op_notN (pv 6) pe_non (nomark _)) (pw_and (pt_cmpR op_gt (pe_ix ix_tup (pv 6) pe_int (fun _ _ => rfl)) pe_int (nomark _)) (pw_and (pt_cmpR op_gt (pv 3) pe_int (nomark _)) (pw_and1 (pt_val (pe_cl h_is_field (hr.mono (by decide)) (pa_cons (pv 3) pa_nil)))))))))
            (pss_one (ps_ret (pe_tup (pa_cons (pv 3) (pa_cons (pe_tup (pa_cons (pv 5) (pa_cons (pe_ifExp (pt_cmpR op_eq (pe_ix ix_str (pe_ix ix_list (pv 2) pe_int (fun _ _ => rfl)) (pv 4) (fun _ _ => rfl)) pe_str (nomark _)) (pv 6) (pe_cl h__law_minus (hr.mono (by decide)) (pa_cons (pv 6) pa_nil))) pa_nil))) pa_nil)))))
            pss_nil)))
          pss_nil)))
      (pss_one (ps_ret pe_non)))))))), fun ds T h => ?_⟩
  obtain ⟨x, rfl, hx, hT⟩ := h
  have hz : x.length ≤ sizeLine := Nat.le_trans hx (by decide)
  refine ds_let (dp_call (dap_cons (dp_var rfl) dap_nil) ⟨x, rfl, by omega, rfl⟩) ?_
  cases q : readF (tl x) with
  | some a =>
    rw [lawS_some q] at hT
    exact ds_when (b := true) (dtp_test (dp_notN (d := eR a) (dp_var rfl))) (fun _ => ds_retp (dp_tup (dap_cons dp_int (dap_cons (dp_tup (dap_cons (dp_var rfl) (dap_cons (dp_tup (dap_cons dp_int (dap_cons dp_int dap_nil))) dap_nil))) dap_nil))) hT) (fun z => nomatch z)
  | none =>
    rw [lawS_parts q] at hT
    refine ds_when (b := false) (dtp_test (dp_notN (d := .none) (dp_var rfl))) (fun z => nomatch z) fun _ => ?_
    refine ds_let (dp_split (dp_var rfl) dp_str (by decide) (Nat.le_trans (Nat.add_le_add_right hx 2) (by decide))) ?_
    have hsh : ∀ a ∈ Txt.split x "r", a.length ≤ 10000 := fun a ha => Nat.le_trans (split_short r_tl r_ok ha) (by omega)
    generalize Txt.split x "r" = ps at hT hsh
    by_cases z : ps.length ≠ 2
    · have e : lawP FL ps = none := by
        match ps, z with
        | [], _ => rfl
        | [a], _ => rfl
        | [a, b], hn => exact absurd rfl hn
        | a :: b :: c :: r, _ => rfl
      rw [e] at hT
      refine ds_when (b := true) (dtp_or (a := true) (b := true) (DTP.is (dtp_test (dp_neI (dp_lenL (dp_var rfl)) dp_int)) ?_) (fun z => nomatch z)) (fun _ => ds_retp dp_non hT) (fun z => nomatch z)
      rw [List.length_map, decide_eq_false (p := (ps.length : Int) = 2) (by omega)]; rfl
    obtain ⟨h, f', rfl⟩ : ∃ s f', ps = [s, f'] := by
      match ps, z with
      | [], z => exact absurd (by decide) z
      | [a], z => exact absurd (by show 1 ≠ 2; decide) z
      | [a, b], _ => exact ⟨a, b, rfl⟩
      | a :: b :: c :: r, z => exact absurd (by rw [List.length_cons, List.length_cons, List.length_cons]; omega) z
    have hh := hsh h (by simp)
    have hf := hsh f' (by simp)
    have hzh : h.length ≤ sizeLine := Nat.le_trans hh (by decide)
    have hzf : f'.length ≤ sizeLine := Nat.le_trans hf (by decide)
    have hT : T (oS (if isIT (tl f') = true ∧ (tl f').take 1 ≠ [45] ∧ (tl f').take 1 ≠ [48] then (List.range ((tl h).length - 1)).findSome? fun i => fitAt FL (intV (tl f')) (tl h) (i + 1) else none)) := hT
    refine ds_when (b := !isIT (tl f') || decide ((tl f').take 1 = [45] ∨ (tl f').take 1 = [48])) (DTP.is (dtp_or (a := false) (b := !isIT (tl f') || decide ((tl f').take 1 = [45] ∨ (tl f').take 1 = [48])) (DTP.is (dtp_test (dp_neI (dp_lenL (dp_var rfl)) dp_int)) (by rfl)) fun _ => dtp_or (dtp_not (dtp_B (dp_call (dap_cons (dp_ixL (d := .str f') (dp_var rfl) dp_int (by rfl)) dap_nil) ⟨f', rfl, by omega, rfl⟩))) fun _ => DTP.is (dtp_test (dp_inTS (ys := [("-" : Str), ("0" : Str)]) (dp_sliceS (dp_ixL (d := .str f') (dp_var rfl) dp_int (by rfl)) hzf do_none (do_some dp_int)) (dp_tup (dap_cons dp_str (dap_cons dp_str dap_nil))))) (by rw [in_mz, tl_take1])) rfl) (fun w => ?_) fun w => ?_
    · rw [if_neg] at hT
      · exact ds_retp dp_non hT
      · rintro ⟨w1, w2, w3⟩
        rw [w1, Bool.not_true, Bool.false_or] at w
        rcases of_decide_eq_true w with v | v
        · exact w2 v
        · exact w3 v
    · rw [Bool.or_eq_false_iff, Bool.not_eq_false'] at w
      obtain ⟨w1, w2⟩ := w
      have w2 := of_decide_eq_false w2
      rw [if_pos ⟨w1, fun v => w2 (.inl v), fun v => w2 (.inr v)⟩] at hT
      have hi := it_int w1
      have hn := it_lt w1
      refine ds_let (dp_intS (dp_ixL (d := .str f') (dp_var rfl) dp_int (by rfl)) hi.1 (by omega)) ?_
      generalize intV (tl f') = n at hT hi hn
      have hlen := len_tl h
      refine ds_forq (fun ρ' => ∀ j, j < (tl h).length - 1 → fitAt FL n (tl h) (j + 1) = none) (ds_for (fun ds i ρ' => ds = ((List.range ((tl h).length - 1)).map fun i : Nat => PyData.int (1 + (i : Int))) ∧ (∃ s1 s2 s3 : Sl, ρ' = [.va (.str x), .va .none, .va (.list ([h, f'].map .str)), .va (.int n), s1, s2, s3]) ∧ ∀ j, j < i → fitAt FL n (tl h) (j + 1) = none) (di_rng2 (DA.of (dap_cons dp_int (dap_cons (dp_lenS (dp_ixL (d := .str h) (dp_var rfl) dp_int (by rfl)) hzh) dap_nil)) ⟨_, _, rfl, by omega, ⟨?_, ⟨.no, .no, .no, rfl⟩, fun j hj => by omega⟩, ?_, ?_⟩))) ?_
      · rw [show ((h.length : Int) - 1).toNat = (tl h).length - 1 by omega]
      · rintro i d ρ2 hd ⟨eds, ⟨s1, s2, s3, rfl⟩, hI⟩
        rw [eds] at hd
        have hik : i < (tl h).length - 1 := by
          have := (List.getElem?_eq_some_iff.mp hd).1
          rw [List.length_map, List.length_range] at this
          exact this
        rw [List.getElem?_map, List.getElem?_range hik] at hd
        have hk : (1 : Int) + (i : Int) = ((i + 1 : Nat) : Int) := by omega
        have hd' : d = .int (1 + (i : Int)) := (Option.some.inj hd).symm
        rw [hk] at hd'
        subst hd'
        obtain ⟨c, hc⟩ : ∃ c, (tl h)[i + 1]? = some c := ⟨_, List.getElem?_eq_getElem (by omega)⟩
        have eg : (tl h).getD (i + 1) 0 = c := by rw [List.getD_eq_getElem?_getD, hc]; rfl
        have hat := atI_at (x := h) (i := ((i + 1 : Nat) : Int)) rfl hc
        have next : ∀ s1 s2 s3 : Sl, fitAt FL n (tl h) (i + 1) = none → (List.map (fun i : Nat => PyData.int (1 + (i : Int))) (List.range ((h.length : Int) - 1).toNat) = ((List.range ((tl h).length - 1)).map fun i : Nat => PyData.int (1 + (i : Int))) ∧ (∃ t1 t2 t3 : Sl, [.va (.str x), .va .none, .va (.list ([h, f'].map .str)), .va (.int n), s1, s2, s3] = [.va (.str x), .va .none, .va (.list ([h, f'].map .str)), .va (.int n), t1, t2, t3]) ∧ ∀ j, j < i + 1 → fitAt FL n (tl h) (j + 1) = none) := fun s1 s2 s3 hno => ⟨eds, ⟨s1, s2, s3, rfl⟩, fun j hj => by
          by_cases e : j = i
          · rw [e]; exact hno
          · exact hI j (by omega)⟩
        refine dg_name ?_
        refine ds_ifq (p := sg c) (DTP.is (dtp_test (dp_inS (dp_ixS (dp_ixL (d := .str h) (dp_var rfl) dp_int (by rfl)) (dp_var rfl) hzh hat) dp_str)) (sg_pm c)) (fun z => ?_) fun z => ?_
        · have hct := cutS_length h none (some ((i + 1 : Nat) : Int))
          have hcd := cutS_length h (some (((i + 1 : Nat) : Int) + 1)) none
          have e1 : tl (cutS h none (some ((i + 1 : Nat) : Int))) = (tl h).take (i + 1) := tl_take h (i + 1)
          have e2 : tl (cutS h (some (((i + 1 : Nat) : Int) + 1)) none) = (tl h).drop (i + 1 + 1) := tl_dropS h (i + 1)
          have ef : fitAt FL n (tl h) (i + 1) = fitS FL n c (readF ((tl h).take (i + 1))) (readF ((tl h).drop (i + 1 + 1))) := by
            unfold fitAt
            rw [eg, if_pos z]
          refine ds_parp (dap_cons (dp_call (dap_cons (dp_sliceS (dp_ixL (d := .str h) (dp_var rfl) dp_int (by rfl)) hzh do_none (do_some (dp_var rfl))) dap_nil) ⟨_, rfl, by omega, rfl⟩) (dap_cons (dp_call (dap_cons (dp_sliceS (dp_ixL (d := .str h) (dp_var rfl) dp_int (by rfl)) hzh (do_some (dp_add (dp_var rfl) dp_int)) do_none) dap_nil) ⟨_, rfl, by omega, rfl⟩) dap_nil)) ?_
          rw [e1, e2]
          cases q1 : readF ((tl h).take (i + 1)) with
          | none =>
            rw [q1] at ef
            exact ds_ifp (b := false) (dtp_and (a := false) (b := false) (dtp_test (dp_notN (d := .none) (dp_var rfl))) (fun z => nomatch z)) (fun z => nomatch z) fun _ => ds_next (next _ _ _ ef)
          | some a =>
            cases q2 : readF ((tl h).drop (i + 1 + 1)) with
            | none =>
              rw [q1, q2] at ef
              exact ds_ifp (b := false) (dtp_and (a := true) (b := false) (dtp_test (dp_notN (d := eR a) (dp_var rfl))) fun _ => dtp_and (a := false) (b := false) (dtp_test (dp_notN (d := .none) (dp_var rfl))) (fun z => nomatch z)) (fun z => nomatch z) fun _ => ds_next (next _ _ _ ef)
            | some b =>
              rw [q1, q2] at ef
              have ef : fitAt FL n (tl h) (i + 1) = if 0 < b.num ∧ 1 < n ∧ FL n = true then some (n, a, if c = 43 then b else -b) else none := ef
              refine ds_ifq (p := 0 < b.num ∧ 1 < n ∧ FL n = true) ?_ (fun v => ?_) fun v => ?_
              · refine DTP.is (dtp_and (a := true) (b := decide (0 < b.num) && (decide (1 < n) && FL n)) (dtp_test (dp_notN (d := eR a) (dp_var rfl))) fun _ => DTP.is (dtp_and (a := true) (b := decide (0 < b.num) && (decide (1 < n) && FL n)) (dtp_test (dp_notN (d := eR b) (dp_var rfl))) fun _ => dtp_and (dtp_test (dp_gt (dp_ixT (ds := [.int b.num, .int (b.den : Int)]) (dp_var rfl) dp_int) dp_int)) fun _ => dtp_and (dtp_test (dp_gt (dp_var rfl) dp_int)) fun h1 => dtp_B (dp_call (dap_cons (dp_var rfl) dap_nil) (FL_field (of_decide_eq_true h1) hn rfl))) rfl) ?_
                rw [Bool.true_and, Bool.decide_and, Bool.decide_and]
                cases FL n <;> rfl
              · rw [if_pos v] at ef
                have e3 : (List.range ((tl h).length - 1)).findSome? (fun i => fitAt FL n (tl h) (i + 1)) = some (n, a, if c = 43 then b else -b) := fs_some hik (fun j hj => hI j hj) ef
                rw [e3] at hT
                refine ds_retp (dp_tup (dap_cons (dp_var rfl) (dap_cons (dp_tup (dap_cons (dp_var rfl) (dap_cons (dp_ite (p := c = 43) (DTP.is (dtp_test (dp_eqS (dp_ixS (dp_ixL (d := .str h) (dp_var rfl) dp_int (by rfl)) (dp_var rfl) hzh hat) dp_str)) (sgn1_eq plus_tl)) (fun _ => dp_var rfl) fun _ => dp_call (dap_cons (dp_var rfl) dap_nil) ⟨b, rfl, rfl⟩) dap_nil))) dap_nil))) ?_
                by_cases h43 : c = 43
                · rw [if_pos h43] at hT ⊢
                  exact hT
                · rw [if_neg h43] at hT ⊢
                  exact hT
              · rw [if_neg v] at ef
                exact ds_next (next _ _ _ ef)
        · have ef : fitAt FL n (tl h) (i + 1) = none := by
            unfold fitAt
            rw [eg, if_neg z]
          exact ds_next (next _ _ _ ef)
      · rintro ρ2 ⟨eds, ⟨s1, s2, s3, rfl⟩, hI⟩
        rw [eds, List.length_map, List.length_range] at hI
        exact hI
      · intro ρ' hI
        have e3 : (List.range ((tl h).length - 1)).findSome? (fun i => fitAt FL n (tl h) (i + 1)) = none := fs_none hI
        rw [e3] at hT
        exact ds_retp dp_non hT

end H75
namespace H75
open PySem PySem.Spec PyProof.Rows L2 DL
open TL
theorem nc6 (a b c d : D) (s : Sl) : True := trivial
def ρP (cs : List Rat) (s2 s3 s4 : Sl) : List Sl := [.va (.str (polyT cs)), .no, s2, s3, s4, .no]
def vaNo (s : Sl) : Prop := s = .no ∨ ∃ d, s = .va d
theorem ncP {cs : List Rat} {s2 s3 s4 : Sl} (h2 : vaNo s2) (h3 : vaNo s3) (h4 : vaNo s4) (b : Addr) : ¬ Cell (ρP cs s2 s3 s4) b := nocell (fun s hs => by
  unfold ρP at hs
  simp only [List.mem_cons, List.not_mem_nil, or_false] at hs
  rcases hs with rfl | rfl | rfl | rfl | rfl | rfl
  · exact .inr ⟨_, rfl⟩
  · exact .inl rfl
  · exact h2
  · exact h3
  · exact h4
  · exact .inl rfl) b
def DKp (K : Fg) (cs : List Rat) (ix : List Nat) (G H : Hp) (a : Addr) : Prop :=
  ∃ kvs : List (Key × V), H a = some (.dK kvs) ∧ kvs.map (·.1) = ix.map (fun k : Nat => (Sum.inl (k : Int) : Key)) ∧ ∀ k : Nat, (k ∈ ix → ∃ v, valV kvs (Sum.inl (k : Int)) = some v ∧ Dp K G v (eR (cs.getD k 0))) ∧ (k ∉ ix → valV kvs (Sum.inl (k : Int)) = none)
theorem inl_inj {k j : Nat} : (Sum.inl (k : Int) : Key) = Sum.inl (j : Int) ↔ k = j := ⟨fun h => by injection h with h; omega, fun h => by rw [h]⟩
def c_law_poly_read : Call := fun ds T => ∃ cs : List Rat, ds = [.str (polyT cs)] ∧ PolyOk cs ∧ T (.tuple (cs.map eR))
theorem len_law_poly_read {ds T} (h : c_law_poly_read ds T) : ds.length = 1 := by obtain ⟨_, rfl, _⟩ := h; rfl
theorem ite3 {p q : Prop} [Decidable p] [Decidable q] {a b c : D} {k : Nat} {i : Int} : True := trivial
theorem eq0_zero (q : Rat) (h : ¬ q ≠ 0) : eR q = .tuple [.int 0, .int 1] := by
  have : q = 0 := Classical.not_not.mp h
  subst this; rfl
abbrev N_law_poly_read : List Str := ["text", "found", "part", "words", "power", "at"]
theorem sc_law_poly_read : FnScope N_law_poly_read ["text"] (defScope s_law_poly_read) := ⟨rfl, rfl, rfl, by decide +kernel, rfl, by decide +kernel, by decide +kernel⟩
set_option maxHeartbeats 2000000 in
theorem ok_law_poly_read {Pg : Program} {w : World} {K : Fg} {mg : Str → Option Value} {base : Heap} (C : Cs K mg) (D0 : DfX K mg "_law_poly_read" s_law_poly_read ["text"]) (h__law_read : OkF Pg w K mg base "_law_read" 2 ["word"] (spP K c_law_read)) : OkF Pg w K mg base "_law_poly_read" 3 ["text"] (spP K c_law_poly_read) := by
  refine okP D0 sc_law_poly_read (fun ds T h => len_law_poly_read h) fun f cdv A outer s H E hr => ⟨_, (pss_cons (ps_if (pt_cmpR op_eq (pv 0) pe_str (nomark _))
        (pss_one (ps_ret (pe_tup pa_nil)))
        pss_nil)
      (pss_cons (ps_set (i := 1) sc_law_poly_read.nd rfl (.inr rfl) pe_dnewK)
      (pss_cons (ps_for PassesOwn.never rfl (pi_list (pe_split (pv 0) pe_str)) (pg_name (i := 2) sc_law_poly_read.nd rfl (.inl rfl))
        (pss_cons (ps_set (i := 3) sc_law_poly_read.nd rfl (.inl rfl) (pe_split (pv 2) pe_str))
        (pss_cons (ps_set (i := 4) sc_law_poly_read.nd rfl (.inl rfl) (pe_ifExp (pt_cmpR op_eq (pe_callB call_len_seq (by rfl) C.f_len (by decide +kernel) (pa_cons (pv 3) pa_nil)) pe_int (nomark _)) pe_int (pe_ifExp (pt_cmpR op_eq (pe_ix ix_list (pv 3) pe_int (fun _ _ => rfl)) pe_str (nomark _)) pe_int (pe_callTy call_int_str (by rfl) C.f_int (by decide +kernel) (pa_cons (pe_slice sl_str (pe_ix ix_list (pv 3) pe_int (fun _ _ => rfl)) (po_some pe_int) po_none) pa_nil)))))
        (pss_one (ps_dput (hu_of hr) (pv 1) (pv 4) (pe_cl h__law_read (hr.mono (by decide)) (pa_cons (pe_ix ix_list (pv 3) pe_int (fun _ _ => rfl)) pa_nil)) rfl)))))
      (pss_one (ps_ret (pe_callTy call_tuple_of (by rfl) C.f_tuple (by decide +kernel) (pa_cons (pe_lc (own := [("at", 5)]) (g := gName 5) rfl sc_law_poly_read.nd (pi_range1 (by rfl) C.f_range (pa_cons (pe_op op_add (pe_callB (cr_max rfl) (by rfl) C.f_max (by decide +kernel) (pa_cons (pe_callTy (call_list_dK rfl) (by rfl) C.f_list (by decide +kernel) (pa_cons (pv 1) pa_nil)) pa_nil)) pe_int) pa_nil)) (blkOk_by (N := N_law_poly_read) (sc := defScope s_law_poly_read) (by decide +kernel)) (fun _ _ _ _ _ => (pg_name (i := 5) sc_law_poly_read.nd rfl (.inl rfl))) (fun _ _ _ _ _ => pts_nil) (fun _ _ _ _ _ => (pe_dget2 (hu_of hr) (pv 1) (pv 5) (pe_tup (pa_cons pe_int (pa_cons pe_int pa_nil))) ⟨by rfl, by first | rfl | decide +kernel, by rfl, by rfl⟩))) pa_nil))))))), fun ds T h => ?_⟩
  obtain ⟨cs, rfl, ok, hT⟩ := h
  have hlen := polyT_len ok
  have hn21 := ok.len
  by_cases hc : cs = []
  · subst hc
    exact ds_when (b := true) (DTP.is (dtp_test (dp_eqS (dp_var rfl) dp_str)) (decide_eq_true polyT_nil)) (fun _ => ds_retp (dp_tup dap_nil) hT) (fun z => nomatch z)
  refine ds_when (b := false) (DTP.is (dtp_test (dp_eqS (dp_var rfl) dp_str)) (decide_eq_false (polyT_zero ok hc))) (fun z => nomatch z) fun _ => ?_
  have hne := partsP_ne ok hc
  have hsp := split_poly hne
  intro σ0 G0 H0 Z E0 z a ha
  have E0 : EnvOk K G0 H0 σ0 (ρP cs .no .no .no) := E0
  have S1 : Step (ρP cs .no .no .no) G0 H0 (ρP cs .no .no .no) G0 (upd H0 a (.dK [])) := .alloc ha _
  have E1 : EnvOk K G0 (upd H0 a (.dK [])) (σ0.set 1 (some (.ref a))) (ρP cs .no .no .no) := (E0.alloc ha _).hide rfl _
  have ga : G0 a = none := none_back E0.sub ha
  have hσ1 : (σ0.set 1 (some (V.ref a)))[1]? = some (some (V.ref a)) := by
    rw [List.getElem?_set_self (by rw [E0.len]; show 1 < 6; decide)]
  refine raw_for (Q := fun ds ρ1 => ds = (partsP cs cs.length).map .str ∧ ρ1 = ρP cs .no .no .no) E1 (di_list (DE.of (dp_split (dp_var rfl) dp_str (by decide) (Nat.le_trans (Nat.add_le_add_right hlen 2) (by decide))) ⟨_, rfl, by rw [hsp], rfl⟩)) ?_
  rintro ds ρ1 G1 H1 ⟨rfl, rfl⟩ S2 E2
  obtain ⟨hH1, hG1, _⟩ := S2.keep upd_same ga (ncP (.inl rfl) (.inl rfl) (.inl rfl) a)
  have S12 := S1.trans S2
  refine ⟨fun i σ G H => Same G1 G ∧ ∃ s2 s3 s4 : Sl, vaNo s2 ∧ vaNo s3 ∧ vaNo s4 ∧ EnvOk K G H σ (ρP cs s2 s3 s4) ∧ Step (ρP cs .no .no .no) G0 H0 (ρP cs s2 s3 s4) G H ∧ σ[1]? = some (some (.ref a)) ∧ G a = none ∧ DKp K cs ((idxs cs cs.length).take i) G H a, ?_, ?_, ?_, ?_⟩
  · refine ⟨.refl _, .no, .no, .no, .inl rfl, .inl rfl, .inl rfl, E2, S12, hσ1, hG1, [], hH1, rfl, fun k => ⟨fun h => ?_, fun _ => valV_nil⟩⟩
    rw [List.take_zero] at h; cases h
  · rintro i σ G H ⟨sm, s2, s3, s4, _, _, _, E, _⟩
    exact ⟨sm, E.sub⟩
  · rintro i d σ G H hd ⟨sm, s2, s3, s4, n2, n3, n4, E, S, hσ, gn, kvs, hH, hk, hv⟩ x G3 H3 gr dx
    obtain ⟨k, hki, rfl⟩ : ∃ k, (idxs cs cs.length)[i]? = some k ∧ d = .str (partT (cs.getD k 0) k) := by
      unfold partsP at hd
      rw [List.map_map, List.getElem?_map] at hd
      cases q : (idxs cs cs.length)[i]? with
      | none => rw [q] at hd; cases hd
      | some k => rw [q] at hd; exact ⟨k, rfl, (Option.some.inj hd).symm⟩
    have hkm := idxs_mem.mp (List.mem_of_getElem? hki)
    have hk9 : k ≤ 100 := by omega
    have tq : Told (cs.getD k 0) := getD_told ok.told k
    have tl1 := partT_len ok.told hk9
    have wl := wF_len tq
    have hrd := read_wF tq
    have hsplit := split_part (cs.getD k 0) k
    have kIn := hv k
    generalize hq : cs.getD k 0 = q at tq tl1 wl hrd hsplit hkm dx
    have hH3 := gr.h _ _ hH
    have gn3 := gr.keepN hH gn
    have E3 : EnvOk K G3 H3 (σ.set 2 (some x)) (ρP cs (.va (.str (partT q k))) s3 s4) := (E.grow gr).set 2 dx
    have hσ3 : (σ.set 2 (some x))[1]? = some (some (V.ref a)) := by rw [List.getElem?_set_ne (by decide)]; exact hσ
    refine dp_split (K := K) (ρ := ρP cs (.va (.str (partT q k))) s3 s4) (dp_var rfl) dp_str (by decide) (Nat.le_trans (Nat.add_le_add_right tl1 2) (by decide)) _ G3 H3 E3 _ fun v4 G4 H4 g4 d4 => ?_
    rw [hsplit] at d4
    have E4 := (E3.grow g4).set 3 d4
    have hpow : DP K (tIf (tTest (tOp rEq (tCB (rLen2 K) (tCons (tVar 3) tNil)) (tC (.int 1)))) (tC (.int 0)) (tIf (tTest (tOp rEq (tOp (rIxL K) (tVar 3) (tC (.int 1))) (tC (.str "x")))) (tC (.int 1)) (tCB rIntS (tCons (tSl rSlS (tOp (rIxL K) (tVar 3) (tC (.int 1))) (tPart (tC (.int 1))) tNoPart) tNil)))) (ρP cs (.va (.str (partT q k))) (.va (.list ((wordsT q k).map .str))) s4) (.int (k : Int)) := by
      unfold wordsT
      by_cases h0 : k = 0
      · subst h0
        rw [if_pos rfl]
        exact dp_if (b := true) (DTP.is (dtp_test (dp_eqI (dp_lenL (dp_var rfl)) dp_int)) (by rfl)) (fun _ => dp_int) (fun z => nomatch z)
      · rw [if_neg h0]
        refine dp_if (b := false) (DTP.is (dtp_test (dp_eqI (dp_lenL (dp_var rfl)) dp_int)) (by rfl)) (fun z => nomatch z) fun _ => ?_
        refine dp_if (b := decide (k = 1)) (DTP.is (dtp_test (dp_eqS (dp_ixL (d := .str (pwX k)) (dp_var rfl) dp_int (by rfl)) dp_str)) (x_ne h0)) (fun z => ?_) fun z => ?_
        · rw [of_decide_eq_true z]; exact dp_int
        · have h1 := of_decide_eq_false z
          have hi := int_str hk9
          have hz := pwX_len hk9
          refine dp_intS (dp_sliceS (dp_ixL (d := .str (pwX k)) (dp_var rfl) dp_int (by rfl)) (Nat.le_trans hz (by decide)) (do_some dp_int) do_none) ?_ ?_
          · rw [x_cut k h0 h1]; exact hi.1
          · rw [x_cut k h0 h1]; omega
    refine hpow _ G4 H4 E4 _ fun v5 G5 H5 g5 d5 => ?_
    have E5 := (E4.grow g5).set 4 d5
    have hval : DP K (tCall (spP K c_law_read) [] L2.E0 (tCons (tOp (rIxL K) (tVar 3) (tC (.int 0))) tNil)) (ρP cs (.va (.str (partT q k))) (.va (.list ((wordsT q k).map .str))) (.va (.int (k : Int)))) (eR q) := by
      refine dp_call (dap_cons (dp_ixL (d := .str (wF q)) (dp_var rfl) dp_int ?_) dap_nil) ⟨wF q, rfl, by omega, by rw [hrd]; rfl⟩
      unfold wordsT
      split <;> rfl
    cases d5
    refine hval _ G5 H5 E5 _ fun v6 G6 H6 g6 d6 => ?_
    have g46 := (g4.trans g5).trans g6
    have hH6 := g46.h _ _ hH3
    have gn6 := g46.keepN hH3 gn3
    have l1 : σ.length = 6 := by rw [E.len]; rfl
    have hσ5 : (((σ.set 2 (some x)).set 3 (some v4)).set 4 (some (V.int (k : Int))))[1]? = some (some (V.ref a)) := by
      rw [List.getElem?_set_ne (by decide), List.getElem?_set_ne (by decide)]; exact hσ3
    have hσ4 : (((σ.set 2 (some x)).set 3 (some v4)).set 4 (some (V.int (k : Int))))[4]? = some (some (V.int (k : Int))) := by
      rw [List.getElem?_set_self (by rw [List.length_set, List.length_set, l1]; decide)]
    have hkn : k ∉ (idxs cs cs.length).take i := by
      intro hm
      have nd := idxs_nodup (cs := cs) cs.length
      obtain ⟨j, hj⟩ := List.mem_iff_getElem?.mp hm
      have hji : j < i := by
        have := (List.getElem?_eq_some_iff.mp hj).1
        rw [List.length_take] at this
        omega
      rw [List.getElem?_take_of_lt hji] at hj
      obtain ⟨a1, a2⟩ := List.getElem?_eq_some_iff.mp hki
      obtain ⟨b1, b2⟩ := List.getElem?_eq_some_iff.mp hj
      have := (List.nodup_iff_pairwise_ne.mp nd)
      have := (List.pairwise_iff_getElem.mp this) j i b1 a1 hji
      exact this (by rw [a2, b2])
    have hnone := kIn.2 hkn
    have hkl : kvs.length = ((idxs cs cs.length).take i).length := by
      have := congrArg List.length hk
      rw [List.length_map, List.length_map] at this
      exact this
    have hsz : kvs.length < sizeLine := by
      have h1 := idxs_len (cs := cs) cs.length
      rw [hkl, List.length_take]
      have : 100 < sizeLine := by decide
      omega
    have etk : (idxs cs cs.length).take (i + 1) = (idxs cs cs.length).take i ++ [k] := by rw [List.take_add_one, hki]; rfl
    refine ⟨.ref a, hσ5, .int (k : Int), hσ4, a, _, rfl, DPut.k (k := Sum.inl (k : Int)) hH6 hsz, ?_⟩
    have nc6 := ncP (cs := cs) (s2 := .va (.str (partT q k))) (s3 := .va (.list ((wordsT q k).map .str))) (s4 := .va (.int (k : Int))) (.inr ⟨_, rfl⟩) (.inr ⟨_, rfl⟩) (.inr ⟨_, rfl⟩) a
    refine ⟨G6, (sm.trans gr.g).trans g46.g, _, _, _, .inr ⟨_, rfl⟩, .inr ⟨_, rfl⟩, .inr ⟨_, rfl⟩, (E5.grow g6).poke gn6 nc6 _, ?_, hσ5, gn6, _, upd_same, ?_, fun j => ⟨fun hj => ?_, fun hj => ?_⟩⟩
    · have s3 : Step (ρP cs .no .no .no) G0 H0 (ρP cs s2 s3 s4) G6 H6 := S.trans (gr.trans g46).step
      exact (((s3.set 2 (.str (partT q k))).set 3 (.list ((wordsT q k).map .str))).set 4 (.int (k : Int))).poke ha _
    · rw [putK_new v6 hnone, List.map_append, hk, etk, List.map_append]; rfl
    · rw [valV_put]
      by_cases e : j = k
      · subst e
        rw [if_pos rfl, hq]
        exact ⟨v6, rfl, d6⟩
      · rw [if_neg (fun h => e (inl_inj.mp h))]
        rw [etk] at hj
        rcases List.mem_append.mp hj with w | w
        · obtain ⟨v, e1, e2⟩ := (hv j).1 w
          exact ⟨v, e1, dp_mono (gr.g.trans g46.g) e2⟩
        · exact absurd (List.mem_singleton.mp w) e
    · rw [etk] at hj
      rw [valV_put, if_neg (fun h => hj (List.mem_append.mpr (.inr (List.mem_singleton.mpr (inl_inj.mp h)))))]
      exact (hv j).2 fun w => hj (List.mem_append.mpr (.inl w))
  · rintro σ G H ⟨sm, s2, s3, s4, n2, n3, n4, E, S, hσ, gn, kvs, hH, hk, hv⟩
    have elen : ((partsP cs cs.length).map PyData.str).length = (idxs cs cs.length).length := by unfold partsP; rw [List.length_map, List.length_map]
    rw [elen, List.take_length] at hk hv
    have nc := ncP (cs := cs) n2 n3 n4 a
    have E' := E.know hH gn nc
    have S' := S.know E0.sub ha gn (.dK kvs)
    have sg : Same G (upd G a (.dK kvs)) := fun b u hb => by rw [upd_ne (ne_of_none hb gn)]; exact hb
    have hn : ((cs.length - 1 : Nat) : Int) + 1 = (cs.length : Int) := by
      have : 0 < cs.length := List.length_pos_iff.mpr hc
      omega
    have hmax : DPx K 1 a (upd G a (.dK kvs)) (tOp rAddI (tCB (rMax K) (tCons (tCB rListD (tCons (tVar 1) tNil)) tNil)) (tC (.int 1))) (ρP cs s2 s3 s4) (.int (cs.length : Int)) := by
      rw [← hn]
      refine dpx_add1 (dpx_maxKeys (ns := (idxs cs cs.length).map fun k : Nat => (k : Int)) upd_same (by rw [hk, List.map_map]; rfl) (List.mem_map.mpr ⟨_, top_mem ok hc, rfl⟩) fun y hy => ?_)
      obtain ⟨j, hj, rfl⟩ := List.mem_map.mp hy
      have := (idxs_mem.mp hj).1
      omega
    have hfin := dpx_tupOf (dpx_lc (K := K) (i0 := 1) (a := a) (Gb := upd G a (.dK kvs)) (ρ := ρP cs s2 s3 s4) (te := tDGet2 (tVar 1) (tVar 5) (tTup (tCons (tC (.int 0)) (tCons (tC (.int 1)) tNil)))) (j := 5) (vs := [5]) (getF cs) (by decide) (by decide) (dipx_rng1 hmax (by omega) (by omega)) (by rw [List.length_map, List.length_range, Int.toNat_natCast]; exact Nat.lt_of_le_of_lt hn21 (by decide)) (fun d hd => by
      obtain ⟨k, hk', rfl⟩ := List.mem_map.mp hd
      refine dpx_get (n := (k : Int)) (d := .tuple [.int 0, .int 1]) upd_same ?_ (dp_var rfl) (dp_tup (dap_cons dp_int (dap_cons dp_int dap_nil)))
      have eg : getF cs (.int (k : Int)) = eR (cs.getD k 0) := rfl
      rw [eg]
      by_cases hm : k ∈ idxs cs cs.length
      · obtain ⟨v, e1, e2⟩ := (hv k).1 hm
        exact .inl ⟨v, e1, dp_mono sg e2⟩
      · refine .inr ⟨(hv k).2 hm, (eq0_zero _ fun hne => hm (idxs_mem.mpr ⟨?_, hne⟩)).symm⟩
        have := List.mem_range.mp hk'
        rw [Int.toNat_natCast] at this
        exact this))
    rw [Int.toNat_natCast, getF_map] at hfin
    exact hfin σ _ H E' hσ (.refl _) _ fun v G' H' g dv => z.rt v _ σ _ G' H' hT (S'.trans g.step) (E'.grow g) dv

end H75
namespace H75
open PySem PySem.Spec PyProof.Rows L2 DL
open TL
theorem pot_mono {m n : Nat} {cs : List D} (h : PotN m cs) (l : m ≤ n) : PotN n cs := by
  obtain ⟨a, b, c, rfl, h1, h2, h3, h4, h5⟩ := h
  exact ⟨a, b, c, rfl, h1, h2, h3, h4, by omega⟩
theorem p300i {n : Int} (h0 : 0 ≤ n) (h : n < 10 ^ 300) : n.natAbs < 2 ^ 1000 := Nat.lt_trans (by
  have : ((n.natAbs : Nat) : Int) < ((10 ^ 300 : Nat) : Int) := by
    rw [Int.natAbs_of_nonneg h0]
    exact_mod_cast h
  exact_mod_cast this) p300
def c_law_great : CallC := fun cs ds T => ∃ (m : Nat) (mo : Int), ds = [.int mo] ∧ 1 ≤ mo ∧ mo ≤ 300 ∧ m < 900000 ∧ PotN m cs ∧ ∀ n es, 1 ≤ n → n < 10 ^ 300 → PotN (m + 302) es → T (.int n) es
theorem len_law_great {cs ds T} (h : c_law_great cs ds T) : ds.length + 1 = 2 := by obtain ⟨_, _, rfl, _⟩ := h; rfl
theorem pow10_mono {a b : Nat} (h : a ≤ b) : (10 : Int) ^ a ≤ 10 ^ b := by
  have := Nat.pow_le_pow_right (n := 10) (by decide) h
  exact_mod_cast this
abbrev N_law_great : List Str := ["pot", "most", "figures", "found", "lap"]
theorem sc_law_great : FnScope N_law_great ["pot", "most"] (defScope s_law_great) := ⟨rfl, rfl, rfl, by decide +kernel, rfl, by decide +kernel, by decide +kernel⟩
set_option maxHeartbeats 2000000 in
theorem ok_law_great {Pg : Program} {w : World} {K : Fg} {mg : Str → Option Value} {base : Heap} (C : Cs K mg) (D0 : DfX K mg "_law_great" s_law_great ["pot", "most"]) (h__law_take : OkF Pg w K mg base "_law_take" 1 ["pot", "upto"] (spC K c_law_take)) : OkF Pg w K mg base "_law_great" 2 ["pot", "most"] (spC K c_law_great) := by
  refine okC D0 sc_law_great (fun cs ds T h => len_law_great h) fun f cdv A outer s H E hr => ⟨_, (pss_cons (ps_set (i := 2) sc_law_great.nd rfl (.inl rfl) (pe_op op_add pe_int (pe_cl h__law_take (hr.mono (by decide)) (pa_cons (pv 0) (pa_cons (pv 1) pa_nil)))))
      (pss_cons (ps_set (i := 3) sc_law_great.nd rfl (.inl rfl) (pe_op op_add pe_int (pe_callTy call_int1 (by rfl) C.f_int (by decide +kernel) (pa_cons (pe_cl h__law_take (hr.mono (by decide)) (pa_cons (pv 0) (pa_cons pe_int pa_nil))) pa_nil))))
      (pss_cons (ps_for PassesOwn.never rfl (pi_range1 (by rfl) C.f_range (pa_cons (pe_op op_sub (pv 2) pe_int) pa_nil)) (pg_name (i := 4) sc_law_great.nd rfl (.inl rfl))
        (pss_one (ps_set (i := 3) sc_law_great.nd rfl (.inl rfl) (pe_op op_add (pe_op op_mulW (pv 3) pe_int) (pe_callTy call_int1 (by rfl) C.f_int (by decide +kernel) (pa_cons (pe_ifExp (pt_cmpR op_lt (pv 4) pe_int (nomark _)) (pe_cl h__law_take (hr.mono (by decide)) (pa_cons (pv 0) (pa_cons pe_int pa_nil))) (pe_op op_modN (pe_op op_add (pe_op op_mulW (pv 4) (pv 4)) pe_int) pe_int)) pa_nil))))))
      (pss_one (ps_ret (pv 3)))))), fun p cs ds T h => ?_⟩
  obtain ⟨m, mo, rfl, h1, h2, hm, hp, hT⟩ := h
  have big : (300 : Int) < 2 ^ 1000 := by decide
  refine ds_letE (de_opR dp_int (de_callC rfl (DA.of (dap_cons (dp_var rfl) dap_nil) ⟨cs, rfl, m, mo, rfl, h1, by omega, by omega, hp, fun k e1 k0 k1 hp1 => ⟨_, r2_addE, ?_⟩⟩)))
  refine ds_letE (de_opR dp_int (de_intI (de_callC rfl (DA.of (dap_cons dp_int dap_nil) ⟨e1, rfl, m + 1, 9, rfl, by decide, by decide, by omega, hp1, fun f e2 f0 f1 hp2 => ⟨f, rfl, _, r2_addE, ?_⟩⟩))))
  refine ds_forq (fun ρ' => ∃ (n : Int) (es : List D) (s s2 : Sl), ρ' = [.ce p es, .va (.int mo), s2, .va (.int n), s] ∧ 1 ≤ n ∧ n < 10 ^ 300 ∧ PotN (m + 302) es) (ds_for (fun ds i ρ' => ds.length = k.toNat ∧ ∃ (n : Int) (es : List D) (s : Sl), ρ' = [.ce p es, .va (.int mo), .va (.int (1 + k)), .va (.int n), s] ∧ 1 ≤ n ∧ n < 10 ^ (i + 1) ∧ PotN (m + 2 + i) es) (di_rng1 (DA.of (dap_cons (dp_sub (dp_var rfl) dp_int) dap_nil) ⟨_, rfl, by omega, by omega, ⟨?_, 1 + f, e2, .no, rfl, by omega, by show 1 + f < 10; omega, hp2⟩, ?_, ?_⟩))) ?_
  · rw [List.length_map, List.length_range]; omega
  · rintro i d ρ2 hd ⟨hds, n, es, s, rfl, n1, n2, hpn⟩
    have hi : i < k.toNat := by
      have := (List.getElem?_eq_some_iff.mp hd).1
      omega
    have hi3 : i < 300 := by omega
    have hd' : d = .int (i : Int) := by
      have := (List.getElem?_eq_some_iff.mp hd).1
      rw [List.length_map, List.length_range] at this
      rw [List.getElem?_map, List.getElem?_range this] at hd
      exact (Option.some.inj hd).symm
    subst hd'
    refine dg_name ?_
    have hi300 := pow10_mono (a := i + 1) (b := 300) (by omega)
    have nb := p300i (by omega) (Int.lt_of_lt_of_le n2 hi300)
    have step : ∀ (g : Int) (e4 : List D), 0 ≤ g → g < 10 → PotN (m + 2 + i + 1) e4 → List.length (List.map (fun i : Nat => PyData.int (i : Int)) (List.range (1 + k - 1).toNat)) = k.toNat ∧ ∃ (n' : Int) (es : List D) (s : Sl), ([.ce p e4, .va (.int mo), .va (.int (1 + k)), .va (.int (n * 10 + g)), .va (.int (i : Int))] : List Sl) = [.ce p es, .va (.int mo), .va (.int (1 + k)), .va (.int n'), s] ∧ 1 ≤ n' ∧ n' < 10 ^ (i + 1 + 1) ∧ PotN (m + 2 + (i + 1)) es := fun g e4 g0 g1 h4 => ⟨hds, n * 10 + g, e4, _, rfl, by omega, by
      rw [Int.pow_succ]; omega, h4⟩
    refine ds_asg (de_opR (dp_mul (dp_var rfl) dp_int (cmul (b := 4) nb (by decide) (by decide))) (de_intI (de_if (DT.of (dtp_test (dp_lt (dp_var rfl) dp_int)) ?_))))
    split
    · exact de_callC rfl (DA.of (dap_cons dp_int dap_nil) ⟨es, rfl, m + 2 + i, 10, rfl, by decide, by decide, by omega, hpn, fun g e4 g0 g1 h4 => ⟨g, rfl, _, r2_addE, dg_name (step g e4 g0 g1 h4)⟩⟩)
    · refine DE.of (dp_mod (dp_add (dp_mul (dp_var rfl) (dp_var rfl) (cmul (a := 10) (b := 10) (by omega) (by omega) (by decide))) dp_int) dp_int (by decide)) ⟨_, rfl, _, r2_addE, dg_name (step _ es ?_ ?_ (pot_mono hpn (by omega)))⟩
      · exact (fmod_lt (by decide)).1
      · exact (fmod_lt (by decide)).2
  · rintro ρ2 ⟨hds, n, es, s, rfl, n1, n2, hpn⟩
    rw [hds] at n2 hpn
    refine ⟨n, es, s, _, rfl, n1, Int.lt_of_lt_of_le n2 (pow10_mono (by omega)), pot_mono hpn (by omega)⟩
  · rintro ρ' ⟨n, es, s, s2, rfl, n1, n2, hpn⟩
    exact ds_retp (dp_var rfl) ⟨es, rfl, hT n es n1 n2 hpn⟩
def c_law_fraction : CallC := fun cs ds T => ∃ (m : Nat) (mo : Int), ds = [.int mo] ∧ 1 ≤ mo ∧ mo ≤ 300 ∧ m < 800000 ∧ PotN m cs ∧ ∀ q es, Told q → PotN (m + 607) es → T (eR q) es
theorem len_law_fraction {cs ds T} (h : c_law_fraction cs ds T) : ds.length + 1 = 2 := by obtain ⟨_, _, rfl, _⟩ := h; rfl
theorem told_div {t l : Int} (hl : l ≠ 0) (h1 : t.natAbs < 10 ^ 300) (h2 : l.natAbs < 10 ^ 300) : Told (Rat.divInt t l) := by
  have key : ∀ t l : Int, 0 < l → t.natAbs < 10 ^ 300 → l.natAbs < 10 ^ 300 → Told (Rat.divInt t l) := by
    intro t l hl h1 h2
    have e := red_pos (t := t) hl
    have n1 : (Rat.divInt t l).num.natAbs ≤ t.natAbs := by
      rw [← e.1]
      rw [show t.fdiv ((Nat.gcd t.natAbs l.natAbs : Nat) : Int) = t / ((Nat.gcd t.natAbs l.natAbs : Nat) : Int) from Int.fdiv_eq_ediv_of_nonneg _ (by omega)]
      exact Int.natAbs_ediv_le_natAbs _ _
    have n2 : (Rat.divInt t l).den ≤ l.natAbs := by
      have : ((Rat.divInt t l).den : Int).natAbs ≤ l.natAbs := by
        rw [← e.2]
        rw [show l.fdiv ((Nat.gcd t.natAbs l.natAbs : Nat) : Int) = l / ((Nat.gcd t.natAbs l.natAbs : Nat) : Int) from Int.fdiv_eq_ediv_of_nonneg _ (by omega)]
        exact Int.natAbs_ediv_le_natAbs _ _
      omega
    exact ⟨by omega, by omega⟩
  by_cases h : 0 < l
  · exact key t l h h1 h2
  · have := key (-t) (-l) (by omega) (by omega) (by omega)
    rw [Rat.divInt_neg', Int.neg_neg] at this
    exact this
theorem abs300 {n : Int} (h0 : 0 ≤ n) (h : n < 10 ^ 300) : n.natAbs < 10 ^ 300 := by
  have : ((n.natAbs : Nat) : Int) < ((10 ^ 300 : Nat) : Int) := by
    rw [Int.natAbs_of_nonneg h0]
    exact_mod_cast h
  exact_mod_cast this
abbrev N_law_fraction : List Str := ["pot", "most", "top", "low"]
theorem sc_law_fraction : FnScope N_law_fraction ["pot", "most"] (defScope s_law_fraction) := ⟨rfl, rfl, rfl, by decide +kernel, rfl, by decide +kernel, by decide +kernel⟩
set_option maxHeartbeats 2000000 in
theorem ok_law_fraction {Pg : Program} {w : World} {K : Fg} {mg : Str → Option Value} {base : Heap} (C : Cs K mg) (D0 : DfX K mg "_law_fraction" s_law_fraction ["pot", "most"]) (h__law_take : OkF Pg w K mg base "_law_take" 1 ["pot", "upto"] (spC K c_law_take)) (h__law_great : OkF Pg w K mg base "_law_great" 2 ["pot", "most"] (spC K c_law_great)) (h__law_reduced : OkF Pg w K mg base "_law_reduced" 1 ["top", "low"] (spP K c_law_reduced)) : OkF Pg w K mg base "_law_fraction" 3 ["pot", "most"] (spC K c_law_fraction) := by
  refine okC D0 sc_law_fraction (fun cs ds T h => len_law_fraction h) fun f cdv A outer s H E hr => ⟨_, (pss_cons (ps_set (i := 2) sc_law_fraction.nd rfl (.inl rfl) (pe_ifExp (pt_cmpR op_gt (pe_cl h__law_take (hr.mono (by decide)) (pa_cons (pv 0) (pa_cons pe_int pa_nil))) pe_int (nomark _)) (pe_cl h__law_great (hr.mono (by decide)) (pa_cons (pv 0) (pa_cons (pv 1) pa_nil))) pe_int))
      (pss_cons (ps_set (i := 3) sc_law_fraction.nd rfl (.inl rfl) (pe_ifExp (pt_cmpR op_eq (pe_cl h__law_take (hr.mono (by decide)) (pa_cons (pv 0) (pa_cons pe_int pa_nil))) pe_int (nomark _)) (pe_cl h__law_great (hr.mono (by decide)) (pa_cons (pv 0) (pa_cons (pv 1) pa_nil))) pe_int))
      (pss_one (ps_ret (pe_cl h__law_reduced (hr.mono (by decide)) (pa_cons (pe_ifExp (pt_cmpR op_eq (pe_cl h__law_take (hr.mono (by decide)) (pa_cons (pv 0) (pa_cons pe_int pa_nil))) pe_int (nomark _)) (pe_un un_neg (pv 2)) (pv 2)) (pa_cons (pv 3) pa_nil))))))), fun p cs ds T h => ?_⟩
  obtain ⟨m, mo, rfl, h1, h2, hm, hp, hT⟩ := h
  have z300 : (0 : Int) < 10 ^ 300 := by decide +kernel
  have o300 : (1 : Int) < 10 ^ 300 := by decide +kernel
  refine ds_letE (DE.mono (Q := fun d ρ1 => ∃ (t : Int) (es : List D), d = .int t ∧ ρ1 = [.ce p es, .va (.int mo), .no, .no] ∧ 0 ≤ t ∧ t < 10 ^ 300 ∧ PotN (m + 303) es) (de_if (dt_test (de_opL (de_callC rfl (DA.of (dap_cons dp_int dap_nil) ⟨cs, rfl, m, 3, rfl, by decide, by decide, by omega, hp, fun k e1 k0 k1 hp1 => ⟨_, _, dp_int, r2_I0 (fun _ => .bl _) rfl, _, rfl, ?_⟩⟩))))) ?_)
  · split
    · exact de_callC rfl (DA.of (dap_cons (dp_var rfl) dap_nil) ⟨e1, rfl, m + 1, mo, rfl, h1, h2, by omega, hp1, fun n es n1 n2 hpn => ⟨n, es, rfl, rfl, by omega, n2, hpn⟩⟩)
    · exact DE.of dp_int ⟨0, e1, rfl, rfl, by decide, z300, pot_mono hp1 (by omega)⟩
  rintro d ρ1 ⟨t, es, rfl, rfl, t0, t1, hp2⟩
  refine ds_letE (DE.mono (Q := fun d ρ1 => ∃ (l : Int) (es : List D), d = .int l ∧ ρ1 = [.ce p es, .va (.int mo), .va (.int t), .no] ∧ 1 ≤ l ∧ l < 10 ^ 300 ∧ PotN (m + 606) es) (de_if (dt_test (de_opL (de_callC rfl (DA.of (dap_cons dp_int dap_nil) ⟨es, rfl, m + 303, 2, rfl, by decide, by decide, by omega, hp2, fun k e1 k0 k1 hp1 => ⟨_, _, dp_int, r2_eqI rfl, _, rfl, ?_⟩⟩))))) ?_)
  · split
    · exact de_callC rfl (DA.of (dap_cons (dp_var rfl) dap_nil) ⟨e1, rfl, m + 304, mo, rfl, h1, h2, by omega, hp1, fun n es n1 n2 hpn => ⟨n, es, rfl, rfl, n1, n2, hpn⟩⟩)
    · exact DE.of dp_int ⟨1, e1, rfl, rfl, by decide, o300, pot_mono hp1 (by omega)⟩
  rintro d ρ1 ⟨l, es2, rfl, rfl, l0, l1, hp3⟩
  have ta := abs300 t0 t1
  have la := abs300 (by omega) l1
  have fin : ∀ (u : Int) (e5 : List D), u.natAbs = t.natAbs → PotN (m + 607) e5 → T (eR (Rat.divInt u l)) e5 := fun u e5 hu h5 => hT _ e5 (told_div (by omega) (by rw [hu]; exact ta) la) h5
  refine ds_ret (de_call (da_cons (DE.mono (Q := fun d ρ1 => ∃ (u : Int) (e5 : List D), d = .int u ∧ u.natAbs = t.natAbs ∧ ρ1 = [.ce p e5, .va (.int mo), .va (.int t), .va (.int l)] ∧ PotN (m + 607) e5) (de_if (dt_test (de_opL (de_callC rfl (DA.of (dap_cons dp_int dap_nil) ⟨es2, rfl, m + 606, 2, rfl, by decide, by decide, by omega, hp3, fun k e1 k0 k1 hp1 => ⟨_, _, dp_int, r2_eqI rfl, _, rfl, ?_⟩⟩))))) ?_)))
  · split
    · exact DE.of (dp_neg (dp_var rfl)) ⟨-t, e1, rfl, Int.natAbs_neg _, rfl, hp1⟩
    · exact DE.of (dp_var rfl) ⟨t, e1, rfl, rfl, rfl, hp1⟩
  rintro d ρ1 ⟨u, e5, rfl, hu, rfl, h5⟩
  exact DA.of (dap_cons (dp_var rfl) dap_nil) ⟨u, l, 1000, rfl, by omega, Nat.lt_trans (by rw [hu]; exact ta) p300, Nat.lt_trans la p300, by decide, ⟨e5, rfl, fin u e5 hu h5⟩⟩
def c_law_bent : CallC := fun cs ds T => ∃ (m : Nat) (x : Str), ds = [.str x] ∧ 1 ≤ x.length ∧ x.length ≤ 4000 ∧ m < 900000 ∧ PotN m cs ∧ ∀ (y : Str) es, y.length ≤ 2 * x.length + 1 → PotN (m + 3) es → T (.str y) es
theorem len_law_bent {cs ds T} (h : c_law_bent cs ds T) : ds.length + 1 = 2 := by obtain ⟨_, _, rfl, _⟩ := h; rfl
theorem signs10 : ∀ y ∈ ([("0" : Str), "1", "-", "/", "+", " ", "r", "2", "x", "."] : List Str), y.length = 1 := by decide
abbrev N_law_bent : List Str := ["pot", "text", "at", "way", "sign"]
theorem sc_law_bent : FnScope N_law_bent ["pot", "text"] (defScope s_law_bent) := ⟨rfl, rfl, rfl, by decide +kernel, rfl, by decide +kernel, by decide +kernel⟩
set_option maxHeartbeats 2000000 in
theorem ok_law_bent {Pg : Program} {w : World} {K : Fg} {mg : Str → Option Value} {base : Heap} (C : Cs K mg) (D0 : DfX K mg "_law_bent" s_law_bent ["pot", "text"]) (h__law_take : OkF Pg w K mg base "_law_take" 1 ["pot", "upto"] (spC K c_law_take)) (h__law_of : OkF Pg w K mg base "_law_of" 2 ["pot", "some"] (spC K c_law_of)) : OkF Pg w K mg base "_law_bent" 3 ["pot", "text"] (spC K c_law_bent) := by
  refine okC D0 sc_law_bent (fun cs ds T h => len_law_bent h) fun f cdv A outer s H E hr => ⟨_, (pss_cons (ps_par (i := 2) (j := 3) rfl sc_law_bent.nd rfl rfl (by decide) rfl rfl (pa_cons (pe_cl h__law_take (hr.mono (by decide)) (pa_cons (pv 0) (pa_cons (pe_callB call_len_str (by rfl) C.f_len (by decide +kernel) (pa_cons (pv 1) pa_nil)) pa_nil))) (pa_cons (pe_cl h__law_take (hr.mono (by decide)) (pa_cons (pv 0) (pa_cons pe_int pa_nil))) pa_nil)) (by rfl))
      (pss_cons (ps_set (i := 4) sc_law_bent.nd rfl (.inl rfl) (pe_cl h__law_of (hr.mono (by decide)) (pa_cons (pv 0) (pa_cons (pe_lst (pa_cons pe_str (pa_cons pe_str (pa_cons pe_str (pa_cons pe_str (pa_cons pe_str (pa_cons pe_str (pa_cons pe_str (pa_cons pe_str (pa_cons pe_str (pa_cons pe_str pa_nil))))))))))) pa_nil))))
      (pss_cons (ps_if (pt_cmpR op_eq (pv 3) pe_int (nomark _))
        (pss_one (ps_ret (pe_op op_add_str (pe_slice sl_str (pv 1) po_none (po_some (pv 2))) (pe_slice sl_str (pv 1) (po_some (pe_op op_add (pv 2) pe_int)) po_none))))
        pss_nil)
      (pss_one (ps_ret (pe_op op_add_str (pe_op op_add_str (pe_slice sl_str (pv 1) po_none (po_some (pv 2))) (pv 4)) (pe_slice sl_str (pv 1) (po_some (pe_op op_add (pv 2) (pe_callTy call_int1 (by rfl) C.f_int (by decide +kernel) (pa_cons (pe_cmpR op_gt (pv 3) pe_int (nomark _)) pa_nil)))) po_none))))))), fun p cs ds T h => ?_⟩
  obtain ⟨m, x, rfl, hx1, hx, hm, hp, hT⟩ := h
  have hz : x.length ≤ sizeLine := Nat.le_trans hx (by decide)
  have h8001 : 8001 ≤ sizeLine := by decide
  have hxb : (x.length : Int) < 2 ^ 1000 := Int.lt_of_le_of_lt (show (x.length : Int) ≤ 4000 by omega) (by decide)
  refine ds_seq (ds_par (da_cons (de_callC rfl (DA.of (dap_cons (dp_lenS (dp_var rfl) hz) dap_nil) ⟨cs, rfl, m, _, rfl, by omega, hxb, by omega, hp, fun at' e1 a0 a1 hp1 => da_cons (de_callC rfl (DA.of (dap_cons dp_int dap_nil) ⟨e1, rfl, m + 1, 4, rfl, by decide, by decide, by omega, hp1, fun wy e2 w0 w1 hp2 => da_nil ⟨_, _, rfl, ?_⟩⟩))⟩))))
  refine ds_letE (de_callC rfl (DA.of (dap_cons (dp_lst (ds := ([("0" : Str), "1", "-", "/", "+", " ", "r", "2", "x", "."] : List Str).map .str) (dap_cons dp_str (dap_cons dp_str (dap_cons dp_str (dap_cons dp_str (dap_cons dp_str (dap_cons dp_str (dap_cons dp_str (dap_cons dp_str (dap_cons dp_str (dap_cons dp_str dap_nil))))))))))) dap_nil) ⟨e2, rfl, m + 2, _, rfl, by decide, by decide, by omega, hp2, fun d e3 hd hp3 => ?_⟩))
  obtain ⟨y, hy, rfl⟩ := List.mem_map.mp hd
  have hy1 := signs10 y hy
  have c1 := fun i : Int => cutS_length x none (some i)
  have c2 := fun i : Int => cutS_length x (some i) none
  refine ds_whenq (p := wy = 0) (dtp_test (dp_eqI (dp_var rfl) dp_int)) (fun z => ?_) fun z => ?_
  · refine ds_retp (dp_addS (dp_sliceS (dp_var rfl) hz do_none (do_some (dp_var rfl))) (dp_sliceS (dp_var rfl) hz (do_some (dp_add (dp_var rfl) dp_int)) do_none) ?_) ⟨e3, rfl, hT _ e3 ?_ hp3⟩
    · have := c1 at'; have := c2 (at' + 1); omega
    · rw [app_len]; have := c1 at'; have := c2 (at' + 1); omega
  · refine ds_retp (dp_addS (dp_addS (dp_sliceS (dp_var rfl) hz do_none (do_some (dp_var rfl))) (dp_var rfl) ?_) (dp_sliceS (dp_var rfl) hz (do_some (dp_add (dp_var rfl) (dp_intB (dp_gt (dp_var rfl) dp_int)))) do_none) ?_) ⟨e3, rfl, hT _ e3 ?_ hp3⟩
    · have := c1 at'; omega
    · rw [app_len]; have := c1 at'; have := c2 (at' + if decide (1 < wy) = true then 1 else 0); omega
    · rw [app_len, app_len]; have := c1 at'; have := c2 (at' + if decide (1 < wy) = true then 1 else 0); omega

end H75
namespace H75
open PySem PySem.Spec PyProof.Rows L2 DL
open TL
theorem eqv_same {d : D} (h : SeqAt.shaped d = true) : PyData.eqv d d = true := SeqAt.eqv_refl d (SeqAt.canLay_of_shaped h)
theorem sh_oF {o : Option Rat} : SeqAt.shaped (oF o) = true := by cases o <;> rfl
theorem sh_oS {o : Option RS} : SeqAt.shaped (oS o) = true := by
  cases o with
  | none => rfl
  | some x => obtain ⟨n, a, b⟩ := x; rfl
theorem polyOk_nil : PolyOk [] := ⟨by decide, (fun q h => nomatch h), fun l q h => by
  have := congrArg List.length h
  rw [List.length_append] at this
  simp at this⟩
theorem polyOk_snoc {qs : List Rat} {q : Rat} (hl : qs.length ≤ 20) (ht : ∀ x ∈ qs, Told x) (hq : Told q) (h0 : q ≠ 0) : PolyOk (qs ++ [q]) := ⟨by rw [List.length_append]; show qs.length + 1 ≤ 21; omega, fun x hx => by
  rcases List.mem_append.mp hx with z | z
  · exact ht x z
  · rw [List.mem_singleton.mp z]; exact hq, fun l r h => by
  have := (List.append_inj' h rfl).2
  rw [← (List.cons.inj this).1]; exact h0⟩
theorem told1 : Told 1 := ⟨by decide +kernel, by decide +kernel⟩
theorem fields6 : ∀ f ∈ [2, 3, 5, 7, 10, 101], 1 < f ∧ f < 10 ^ 300 ∧ f ∈ [1, 2, 3, 5, 6, 7, 10, 11, 13, 14, 15, 17, 19, 21, 22, 23, 26, 31, 61, 101] := by decide +kernel
theorem figs4 : ∀ f ∈ ([1, 3, 40, 300] : List Nat), 1 ≤ f ∧ f ≤ 300 := by decide
theorem readF_emp : oF (readF (tl "")) = .none := by
  rw [emp_tl]; rfl
theorem lawS_emp : oS (lawS FL (tl "")) = .none := by
  rw [emp_tl]; rfl
theorem wF_pos (q : Rat) : 1 ≤ (wF q).length := by
  rw [len_tl]; exact List.length_pos_iff.mpr (wF_ne q)
theorem surdT_pos (f : Nat) (a b : Rat) : 1 ≤ (surdT f a b).length := by
  have := wF_pos a
  unfold surdT
  split
  · exact this
  · rw [app_len, app_len, app_len, app_len]; omega
theorem len_ne {y : Str} (h : y ≠ "") : 1 ≤ y.length := by
  rw [len_tl]
  refine List.length_pos_iff.mpr fun z => h ?_
  rw [str_eq, emp_tl]; exact z
def c_law_right : CallC := fun cs ds T => ∃ (m : Nat), ds = [] ∧ m < 700000 ∧ PotN m cs ∧ ∀ es, PotN (m + 20000) es → T (.bool true) es
theorem len_law_right {cs ds T} (h : c_law_right cs ds T) : ds.length + 1 = 1 := by obtain ⟨_, rfl, _⟩ := h; rfl
abbrev N_law_right : List Str := ["pot", "most", "poly", "last", "text", "one", "word", "field", "surd", "long", "lap", "bent"]
theorem sc_law_right : FnScope N_law_right ["pot"] (defScope s_law_right) := ⟨rfl, rfl, rfl, by decide +kernel, rfl, by decide +kernel, by decide +kernel⟩
set_option maxHeartbeats 2000000 in
theorem ok_law_right {Pg : Program} {w : World} {K : Fg} {mg : Str → Option Value} {base : Heap} (C : Cs K mg) (D0 : DfX K mg "_law_right" s_law_right ["pot"]) (h__law_of : OkF Pg w K mg base "_law_of" 2 ["pot", "some"] (spC K c_law_of)) (h__law_take : OkF Pg w K mg base "_law_take" 1 ["pot", "upto"] (spC K c_law_take)) (h__law_fraction : OkF Pg w K mg base "_law_fraction" 3 ["pot", "most"] (spC K c_law_fraction)) (h_poly_text : OkF Pg w K mg base "poly_text" 6 ["poly"] (spP K c_poly_text)) (h__law_poly_read : OkF Pg w K mg base "_law_poly_read" 3 ["text"] (spP K c_law_poly_read)) (h__law_poly_written : OkF Pg w K mg base "_law_poly_written" 2 ["poly"] (spP K c_law_poly_written)) (h_poly_value : OkF Pg w K mg base "poly_value" 6 ["poly", "number"] (spP K c_poly_value)) (h_fraction_text : OkF Pg w K mg base "fraction_text" 3 ["one"] (spP K c_fraction_text)) (h_read_fraction : OkF Pg w K mg base "read_fraction" 3 ["text"] (spP K c_read_fraction)) (h__law_written : OkF Pg w K mg base "_law_written" 1 ["one"] (spP K c_law_written)) (h_surd_text : OkF Pg w K mg base "surd_text" 6 ["field", "one"] (spP K c_surd_text)) (h_read_surd : OkF Pg w K mg base "read_surd" 4 ["text"] (spP K c_read_surd)) (h__law_surd_read : OkF Pg w K mg base "_law_surd_read" 4 ["text"] (spP K c_law_surd_read)) (h__law_surd_written : OkF Pg w K mg base "_law_surd_written" 2 ["field", "one"] (spP K c_law_surd_written)) (h__law_bent : OkF Pg w K mg base "_law_bent" 3 ["pot", "text"] (spC K c_law_bent)) (h__law_read : OkF Pg w K mg base "_law_read" 2 ["word"] (spP K c_law_read)) : OkF Pg w K mg base "_law_right" 7 ["pot"] (spC K c_law_right) := by
  refine okC D0 sc_law_right (fun cs ds T h => len_law_right h) fun f cdv A outer s H E hr => ⟨_, (pss_cons (ps_set (i := 1) sc_law_right.nd rfl (.inr rfl) (pe_cl h__law_of (hr.mono (by decide)) (pa_cons (pv 0) (pa_cons (pe_lst (pa_cons pe_int (pa_cons pe_int (pa_cons pe_int (pa_cons pe_int pa_nil))))) pa_nil))))
      (pss_cons (ps_setLc (i := 2) (own := [("lap", 10)]) (g := gName 10) rfl sc_law_right.nd rfl rfl (sw_true rfl rfl rfl (by decide +kernel)) (pi_range1 (by rfl) C.f_range (pa_cons (pe_cl h__law_take (hr.mono (by decide)) (pa_cons (pv 0) (pa_cons pe_int pa_nil))) pa_nil)) (blkOk_by (N := N_law_right) (sc := defScope s_law_right) (by decide +kernel)) (fun _ _ _ _ _ => (pg_name (i := 10) sc_law_right.nd rfl (.inl rfl))) (fun _ _ _ _ _ => pts_nil) (fun _ _ _ _ _ => (pe_ifExp (pt_cmpR op_gt (pe_cl h__law_take (hr.mono (by decide)) (pa_cons (pv 0) (pa_cons pe_int pa_nil))) pe_int (nomark _)) (pe_cl h__law_fraction (hr.mono (by decide)) (pa_cons (pv 0) (pa_cons (pv 1) pa_nil))) (pe_tup (pa_cons pe_int (pa_cons pe_int pa_nil))))))
      (pss_cons (ps_set (i := 3) sc_law_right.nd rfl (.inl rfl) (pe_cl h__law_fraction (hr.mono (by decide)) (pa_cons (pv 0) (pa_cons (pv 1) pa_nil))))
      (pss_cons (ps_set (i := 2) sc_law_right.nd rfl (.inl rfl) (pe_ifExp (pt_cmpR op_gt (pe_cl h__law_take (hr.mono (by decide)) (pa_cons (pv 0) (pa_cons pe_int pa_nil))) pe_int (nomark _)) (pe_callTy call_tuple_of (by rfl) C.f_tuple (by decide +kernel) (pa_cons (pe_op op_cat (pv 2) (pe_ifExp (pt_cmpR op_ne (pe_ix ix_tup (pv 3) pe_int (fun _ _ => rfl)) pe_int (nomark _)) (pe_lst (pa_cons (pv 3) pa_nil)) (pe_lst (pa_cons (pe_tup (pa_cons pe_int (pa_cons pe_int pa_nil))) pa_nil)))) pa_nil)) (pe_tup pa_nil)))
      (pss_cons (ps_set (i := 4) sc_law_right.nd rfl (.inl rfl) (pe_cl h_poly_text (hr.mono (by decide)) (pa_cons (pv 2) pa_nil)))
      (pss_cons (ps_if (PW.pt (pw_or (pt_cmpR op_ne (pv 4) (pe_cl h__law_poly_written (hr.mono (by decide)) (pa_cons (pv 2) pa_nil)) (nomark _)) (pw_or1 (pt_cmpR (op_neD hr.units) (pe_cl h__law_poly_read (hr.mono (by decide)) (pa_cons (pv 4) pa_nil)) (pv 2) (nomark _)))))
        (pss_one (ps_ret pe_bl))
        pss_nil)
      (pss_cons (ps_if (pt_cmpR (op_neD hr.units) (pe_cl h_poly_value (hr.mono (by decide)) (pa_cons (pv 2) (pa_cons (pe_tup (pa_cons pe_int (pa_cons pe_int pa_nil))) pa_nil))) (pe_ifExp (pt_cmpR (op_neD hr.units) (pv 2) (pe_tup pa_nil) (nomark _)) (pe_ix ix_tup (pv 2) pe_int (fun _ _ => rfl)) (pe_tup (pa_cons pe_int (pa_cons pe_int pa_nil)))) (nomark _))
        (pss_one (ps_ret pe_bl))
        pss_nil)
      (pss_cons (ps_set (i := 5) sc_law_right.nd rfl (.inl rfl) (pe_cl h__law_fraction (hr.mono (by decide)) (pa_cons (pv 0) (pa_cons (pv 1) pa_nil))))
      (pss_cons (ps_set (i := 6) sc_law_right.nd rfl (.inl rfl) (pe_cl h_fraction_text (hr.mono (by decide)) (pa_cons (pv 5) pa_nil)))
      (pss_cons (ps_if (PW.pt (pw_or (pt_cmpR op_ne (pv 6) (pe_cl h__law_written (hr.mono (by decide)) (pa_cons (pv 5) pa_nil)) (nomark _)) (pw_or1 (pt_cmpR (op_neD hr.units) (pe_cl h_read_fraction (hr.mono (by decide)) (pa_cons (pv 6) pa_nil)) (pv 5) (nomark _)))))
        (pss_one (ps_ret pe_bl))
        pss_nil)
      (pss_cons (ps_set (i := 7) sc_law_right.nd rfl (.inl rfl) (pe_cl h__law_of (hr.mono (by decide)) (pa_cons (pv 0) (pa_cons (pe_lst (pa_cons pe_int (pa_cons pe_int (pa_cons pe_int (pa_cons pe_int (pa_cons pe_int (pa_cons pe_int pa_nil))))))) pa_nil))))
      (pss_cons (ps_set (i := 8) sc_law_right.nd rfl (.inl rfl) (pe_tup (pa_cons (pe_cl h__law_fraction (hr.mono (by decide)) (pa_cons (pv 0) (pa_cons (pv 1) pa_nil))) (pa_cons (pe_cl h__law_fraction (hr.mono (by decide)) (pa_cons (pv 0) (pa_cons (pv 1) pa_nil))) pa_nil))))
      (pss_cons (ps_set (i := 9) sc_law_right.nd rfl (.inl rfl) (pe_cl h_surd_text (hr.mono (by decide)) (pa_cons (pv 7) (pa_cons (pv 8) pa_nil))))
      (pss_cons (ps_if (PW.pt (pw_or (pt_cmpR op_ne (pv 9) (pe_cl h__law_surd_written (hr.mono (by decide)) (pa_cons (pv 7) (pa_cons (pv 8) pa_nil))) (nomark _)) (pw_or1 (pt_cmpR (op_neD hr.units) (pe_cl h_read_surd (hr.mono (by decide)) (pa_cons (pv 9) pa_nil)) (pe_cl h__law_surd_read (hr.mono (by decide)) (pa_cons (pv 9) pa_nil)) (nomark _)))))
        (pss_one (ps_ret pe_bl))
        pss_nil)
      (pss_cons (ps_for PassesOwn.never rfl (pi_range1 (by rfl) C.f_range (pa_cons pe_int pa_nil)) (pg_name (i := 10) sc_law_right.nd rfl (.inl rfl))
        (pss_cons (ps_set (i := 11) sc_law_right.nd rfl (.inl rfl) (pe_cl h__law_bent (hr.mono (by decide)) (pa_cons (pv 0) (pa_cons (pv 6) pa_nil))))
        (pss_cons (ps_if (pt_cmpR (op_neD hr.units) (pe_cl h_read_fraction (hr.mono (by decide)) (pa_cons (pv 11) pa_nil)) (pe_cl h__law_read (hr.mono (by decide)) (pa_cons (pv 11) pa_nil)) (nomark _))
          (pss_one (ps_ret pe_bl))
          pss_nil)
        (pss_cons (ps_set (i := 11) sc_law_right.nd rfl (.inl rfl) (pe_cl h__law_bent (hr.mono (by decide)) (pa_cons (pv 0) (pa_cons (pv 9) pa_nil))))
        (pss_cons (ps_set (i := 11) sc_law_right.nd rfl (.inl rfl) (pe_ifExp (PW.pt (pw_and (pt_cmpR op_ne (pv 11) pe_str (nomark _)) (pw_and1 (pt_cmpR op_eq (pe_cl h__law_take (hr.mono (by decide)) (pa_cons (pv 0) (pa_cons pe_int pa_nil))) pe_int (nomark _))))) (pe_cl h__law_bent (hr.mono (by decide)) (pa_cons (pv 0) (pa_cons (pv 11) pa_nil))) (pv 11)))
        (pss_one (ps_if (pt_cmpR (op_neD hr.units) (pe_cl h_read_surd (hr.mono (by decide)) (pa_cons (pv 11) pa_nil)) (pe_cl h__law_surd_read (hr.mono (by decide)) (pa_cons (pv 11) pa_nil)) (nomark _))
          (pss_one (ps_ret pe_bl))
          pss_nil)))))))
      (pss_one (ps_ret (pe_and (pe_cmpR op_isN (pe_cl h_read_fraction (hr.mono (by decide)) (pa_cons pe_str pa_nil)) pe_non (nomark _)) (pe_one (pe_cmpR op_isN (pe_cl h_read_surd (hr.mono (by decide)) (pa_cons pe_str pa_nil)) pe_non (nomark _))))))))))))))))))))), fun p cs ds T h => ?_⟩
  obtain ⟨m, rfl, hm, hp, hT⟩ := h
  have s20 : ∀ {n : Nat}, n ≤ 21 → n ≤ sizeLine := fun h => Nat.le_trans h (by decide)
  -- figures
  refine ds_letE (de_callC rfl (DA.of (dap_cons (dp_lst (ds := ([1, 3, 40, 300] : List Nat).map fun f : Nat => PyData.int (f : Int)) (dap_cons dp_int (dap_cons dp_int (dap_cons dp_int (dap_cons dp_int dap_nil))))) dap_nil) ⟨cs, rfl, m, _, rfl, by decide, by decide, by omega, hp, fun x e1 hx hp1 => ?_⟩))
  obtain ⟨mo, hmo, rfl⟩ := List.mem_map.mp hx
  obtain ⟨mo1, mo2⟩ := figs4 mo hmo
  have mi1 : (1 : Int) ≤ (mo : Int) := by omega
  have mi2 : (mo : Int) ≤ 300 := by omega
  -- numbers of the polynomial
  refine ds_cell (by show 2 < 12; decide) (dn_lc (fun ds j acc ρ' => ds.length ≤ 20 ∧ ∃ (cs : List D) (qs : List Rat), acc = qs.map eR ∧ qs.length = j ∧ (∀ q ∈ qs, Told q) ∧ ρ' = [.ce p cs, .va (.int (mo : Int)), .no, .no, .no, .no, .no, .no, .no, .no, .no, .no] ∧ PotN (m + 2 + 608 * j) cs) gw_name (di_rng1 (da_cons (de_callC rfl (DA.of (dap_cons dp_int dap_nil) ⟨e1, rfl, m + 1, 21, rfl, by decide, by decide, by omega, hp1, fun k e2 k0 k1 hp2 => da_nil ⟨k, rfl, by omega, by omega, ?_, ⟨?_, e2, [], rfl, rfl, (fun q h => nomatch h), rfl, hp2⟩, ?_, ?_⟩⟩)))))
  · rw [List.length_map, List.length_range]; exact Nat.lt_of_lt_of_le (show k.toNat < 22 by omega) (by decide)
  · rw [List.length_map, List.length_range]; omega
  · rintro j d acc ρ2 hd ⟨hl, cs2, qs, rfl, hj, hq, rfl, hp3⟩
    have hj20 : j < 20 := by
      have := (List.getElem?_eq_some_iff.mp hd).1
      omega
    refine dg_name (dt_yes ?_)
    rw [if_pos rfl]
    have fin : ∀ (q : Rat) (es : List D) (s : Sl), Told q → PotN (m + 2 + 608 * (j + 1)) es → (List.map (fun i : Nat => PyData.int (i : Int)) (List.range k.toNat)).length ≤ 20 ∧ ∃ (cs : List D) (qs' : List Rat), qs.map eR ++ [eR q] = qs'.map eR ∧ qs'.length = j + 1 ∧ (∀ q ∈ qs', Told q) ∧ ([.ce p es, .va (.int (mo : Int)), .no, .no, .no, .no, .no, .no, .no, .no, .no, .no] : List Sl) = [.ce p cs, .va (.int (mo : Int)), .no, .no, .no, .no, .no, .no, .no, .no, .no, .no] ∧ PotN (m + 2 + 608 * (j + 1)) cs := fun q es s hq1 h1 => ⟨hl, es, qs ++ [q], by rw [List.map_append]; rfl, by rw [List.length_append, hj]; rfl, fun x hx => by
      rcases List.mem_append.mp hx with z | z
      · exact hq x z
      · rw [List.mem_singleton.mp z]; exact hq1, rfl, h1⟩
    refine de_if (dt_test (de_opL (de_callC rfl (DA.of (dap_cons dp_int dap_nil) ⟨cs2, rfl, m + 2 + 608 * j, 3, rfl, by decide, by decide, by omega, hp3, fun k e4 k0 k1 hp4 => ⟨_, _, dp_int, r2_I0 (fun _ => .bl _) rfl, _, rfl, ?_⟩⟩))))
    split
    · exact de_callC rfl (DA.of (dap_cons (dp_var rfl) dap_nil) ⟨e4, rfl, m + 2 + 608 * j + 1, (mo : Int), rfl, mi1, mi2, by omega, hp4, fun q es hq1 h1 => fin q es .no hq1 (pot_mono h1 (by omega))⟩)
    · exact DE.of (dp_tup (dap_cons dp_int (dap_cons dp_int dap_nil))) (fin 0 e4 .no told0 (pot_mono hp4 (by omega)))
  rintro acc ρ2 ⟨hl, cs2, qs, rfl, hj, hq, rfl, hp3⟩
  refine ⟨rfl, fun p2 nc => ?_⟩
  have hq20 : qs.length ≤ 20 := by omega
  have hp3 : PotN (m + 12162) cs2 := pot_mono hp3 (by omega)
  -- the last one
  refine ds_letE (de_callC (i := 0) rfl (DA.of (dap_cons (dp_var rfl) dap_nil) ⟨cs2, rfl, m + 12162, (mo : Int), rfl, mi1, mi2, by omega, hp3, fun la e5 hla hp5 => ?_⟩))
  refine ds_letE (DE.mono (Q := fun d ρ1 => ∃ (P : List Rat) (es : List D) (s : Sl), d = .tuple (P.map eR) ∧ PolyOk P ∧ ρ1 = [.ce p es, .va (.int (mo : Int)), s, .va (eR la), .no, .no, .no, .no, .no, .no, .no, .no] ∧ PotN (m + 12770) es) (de_if (dt_test (de_opL (de_callC (i := 0) rfl (DA.of (dap_cons dp_int dap_nil) ⟨e5, rfl, m + 12162 + 607, 9, rfl, by decide, by decide, by omega, hp5, fun k e6 k0 k1 hp6 => ⟨_, _, dp_int, r2_I0 (fun _ => .bl _) rfl, _, rfl, ?_⟩⟩))))) ?_)
  · split
    · have hz : qs.length + 1 ≤ sizeLine := s20 (by omega)
      refine de_tupNew (dn_cat (k := 2) rfl (dn_if (b := !decide (la.num = 0)) (dtp_test (dp_neI (dp_ixT (ds := [.int la.num, .int (la.den : Int)]) (dp_var rfl) dp_int) dp_int)) (fun z => dn_lst (DA.of (dap_cons (dp_var rfl) dap_nil) ⟨by show 1 ≤ sizeLine; decide, rfl, by rw [List.length_map]; exact hz, qs ++ [la], e6, _, by rw [List.map_append]; rfl, ?_, rfl, hp6⟩)) fun z => dn_lst (DA.of (dap_cons (dp_tup (dap_cons dp_int (dap_cons dp_int dap_nil))) dap_nil) ⟨by show 1 ≤ sizeLine; decide, rfl, by rw [List.length_map]; exact hz, qs ++ [1], e6, _, by rw [List.map_append]; rfl, polyOk_snoc hq20 hq told1 (by decide), rfl, hp6⟩)))
      refine polyOk_snoc hq20 hq hla fun h => ?_
      rw [decide_eq_true (Rat.num_eq_zero.mpr h)] at z
      cases z
    · exact DE.of (dp_tup dap_nil) ⟨[], e6, _, rfl, polyOk_nil, rfl, hp6⟩
  rintro d ρ1 ⟨P, es, s, rfl, ok, rfl, hpA⟩
  clear hp5 hp3 hp2 hp1 hp
  -- the text of the polynomial
  refine ds_let (dp_call (dap_cons (dp_var rfl) dap_nil) ⟨P, rfl, ok, rfl⟩) ?_
  refine ds_when (b := false) (DTP.is (dtp_or (a := false) (b := false) (DTP.is (dtp_test (dp_neS (x := polyT P) (y := polyT P) (dp_var rfl) (dp_call (dap_cons (dp_var rfl) dap_nil) ⟨P, rfl, ok, rfl⟩))) (by rw [decide_eq_true rfl]; rfl)) fun _ => DTP.is (dtp_test (dp_neD (d := .tuple (P.map eR)) (dp_call (dap_cons (dp_var rfl) dap_nil) ⟨P, rfl, ok, rfl⟩) (dp_var rfl) (sh_polyT P) (sh_polyT P))) (by rw [eqv_same (sh_polyT P)]; rfl)) rfl) (fun z => nomatch z) fun _ => ?_
  refine ds_when (b := false) (DTP.is (dtp_test (dp_neD (d := eR (P.head?.getD 0)) (e := eR (P.head?.getD 0)) (dp_call (dap_cons (dp_var rfl) (dap_cons (dp_tup (dap_cons dp_int (dap_cons dp_int dap_nil))) dap_nil)) ⟨P, rfl, ok, rfl⟩) (dp_if (b := !decide (P.map eR = [])) (DTP.is (dtp_test (dp_neD (dp_var rfl) (dp_tup dap_nil) (sh_polyT P) rfl)) (by rw [eqv_nilT])) (fun z => dp_ixT (dp_var rfl) dp_int ?_) fun z => DP.is (dp_tup (dap_cons dp_int (dap_cons dp_int dap_nil))) ?_) rfl rfl)) (by rw [eqv_same rfl]; rfl)) (fun z => nomatch z) fun _ => ?_
  · cases P with
    | nil => rw [decide_eq_true (show ([] : List Rat).map eR = [] from rfl)] at z; cases z
    | cons q r => exact atI_poly (cs := q :: r) (k := 0) rfl (by rw [List.length_cons]; omega)
  · cases P with
    | nil => rfl
    | cons q r => rw [decide_eq_false (show ¬ (q :: r).map eR = [] from fun h => nomatch h)] at z; cases z
  -- a fraction
  refine ds_letE (de_callC (i := 0) rfl (DA.of (dap_cons (dp_var rfl) dap_nil) ⟨es, rfl, m + 12770, (mo : Int), rfl, mi1, mi2, by omega, hpA, fun one e7 hone hp7 => ?_⟩))
  refine ds_let (dp_call (dap_cons (dp_var rfl) dap_nil) ⟨one, rfl, hone, rfl⟩) ?_
  have wl := wF_len hone
  refine ds_when (b := false) (DTP.is (dtp_or (a := false) (b := false) (DTP.is (dtp_test (dp_neS (x := wF one) (y := wF one) (dp_var rfl) (dp_call (dap_cons (dp_var rfl) dap_nil) ⟨one, rfl, hone, rfl⟩))) (by rw [decide_eq_true rfl]; rfl)) fun _ => DTP.is (dtp_test (dp_neD (d := eR one) (e := eR one) (dp_call (dap_cons (dp_var rfl) dap_nil) ⟨wF one, rfl, by omega, by rw [read_wF hone]; rfl⟩) (dp_var rfl) rfl rfl)) (by rw [eqv_same rfl]; rfl)) rfl) (fun z => nomatch z) fun _ => ?_
  -- a field, a number of it
  refine ds_letE (de_callC (i := 0) rfl (DA.of (dap_cons (dp_lst (ds := ([2, 3, 5, 7, 10, 101] : List Nat).map fun f : Nat => PyData.int (f : Int)) (dap_cons dp_int (dap_cons dp_int (dap_cons dp_int (dap_cons dp_int (dap_cons dp_int (dap_cons dp_int dap_nil))))))) dap_nil) ⟨e7, rfl, m + 12770 + 607, _, rfl, by decide, by decide, by omega, hp7, fun x e8 hx hp8 => ?_⟩))
  obtain ⟨fl, hfl, rfl⟩ := List.mem_map.mp hx
  obtain ⟨f1, f2, f3⟩ := fields6 fl hfl
  have hF := field_ok fl f3
  refine ds_letE (de_tup (da_cons (de_callC (i := 0) rfl (DA.of (dap_cons (dp_var rfl) dap_nil) ⟨e8, rfl, m + 12770 + 607 + 1, (mo : Int), rfl, mi1, mi2, by omega, hp8, fun a e9 ha hp9 => da_cons (de_callC (i := 0) rfl (DA.of (dap_cons (dp_var rfl) dap_nil) ⟨e9, rfl, m + 12770 + 607 + 1 + 607, (mo : Int), rfl, mi1, mi2, by omega, hp9, fun b e10 hb hp10 => da_nil ⟨by show 2 ≤ sizeLine; decide, ?_⟩⟩))⟩))))
  have sd : Sd fl a b := ⟨ha, hb, by omega, .inl f1⟩
  have sl := (surdT_len ha hb f2).1
  have sp := surdT_pos fl a b
  refine ds_let (dp_call (dap_cons (dp_var rfl) (dap_cons (dp_var rfl) dap_nil)) ⟨fl, a, b, rfl, sd, f2, hF, rfl⟩) ?_
  refine ds_when (b := false) (DTP.is (dtp_or (a := false) (b := false) (DTP.is (dtp_test (dp_neS (x := surdT fl a b) (y := surdT fl a b) (dp_var rfl) (dp_call (dap_cons (dp_var rfl) (dap_cons (dp_var rfl) dap_nil)) ⟨fl, a, b, rfl, ha, hb, f2, rfl⟩))) (by rw [decide_eq_true rfl]; rfl)) fun _ => DTP.is (dtp_test (dp_neD (d := oS (lawS FL (tl (surdT fl a b)))) (e := oS (lawS FL (tl (surdT fl a b)))) (dp_call (dap_cons (dp_var rfl) dap_nil) ⟨_, rfl, by omega, rfl⟩) (dp_call (dap_cons (dp_var rfl) dap_nil) ⟨_, rfl, by omega, rfl⟩) sh_oS sh_oS)) (by rw [eqv_same sh_oS]; rfl)) rfl) (fun z => nomatch z) fun _ => ?_
  generalize surdT fl a b = lg at sl sp
  have wp := wF_pos one
  generalize wF one = wd at wl wp
  refine ds_forq (fun ρ' => ∃ (es : List D) (s10 s11 : Sl), PotN (m + 20000) es ∧ ρ' = [.ce p es, .va (.int (mo : Int)), .va (.tuple (P.map eR)), .va (eR la), .va (.str (polyT P)), .va (eR one), .va (.str wd), .va (.int (fl : Int)), .va (.tuple [eR a, eR b]), .va (.str lg), s10, s11]) (ds_for (fun ds i ρ' => ds.length = 10 ∧ ∃ (es : List D) (s10 s11 : Sl), PotN (m + 14592 + 10 * i) es ∧ ρ' = [.ce p es, .va (.int (mo : Int)), .va (.tuple (P.map eR)), .va (eR la), .va (.str (polyT P)), .va (eR one), .va (.str wd), .va (.int (fl : Int)), .va (.tuple [eR a, eR b]), .va (.str lg), s10, s11]) (di_rng1 (DA.of (dap_cons dp_int dap_nil) ⟨_, rfl, by decide, by decide, ⟨rfl, e10, .no, .no, pot_mono hp10 (by omega), rfl⟩, ?_, ?_⟩))) ?_
  · rintro i d ρ2 hd ⟨hl, e11, s10, s11, hp11, rfl⟩
    have hi : i < 10 := by
      have := (List.getElem?_eq_some_iff.mp hd).1
      omega
    refine dg_name ?_
    refine ds_letE (de_callC (i := 0) rfl (DA.of (dap_cons (dp_var rfl) dap_nil) ⟨e11, rfl, _, wd, rfl, wp, by omega, by omega, hp11, fun y e12 hy hp12 => ?_⟩))
    refine ds_when (b := false) (DTP.is (dtp_test (dp_neD (d := oF (readF (tl y))) (e := oF (readF (tl y))) (dp_call (dap_cons (dp_var rfl) dap_nil) ⟨y, rfl, by omega, rfl⟩) (dp_call (dap_cons (dp_var rfl) dap_nil) ⟨y, rfl, by omega, rfl⟩) sh_oF sh_oF)) (by rw [eqv_same sh_oF]; rfl)) (fun z => nomatch z) fun _ => ?_
    refine ds_letE (de_callC (i := 0) rfl (DA.of (dap_cons (dp_var rfl) dap_nil) ⟨e12, rfl, _, lg, rfl, sp, by omega, by omega, hp12, fun u e13 hu hp13 => ?_⟩))
    refine ds_letE (DE.mono (Q := fun d ρ1 => ∃ (v : Str) (es : List D) (s10 s11 : Sl), d = .str v ∧ v.length ≤ 10000 ∧ PotN (m + 14592 + 10 * (i + 1)) es ∧ ρ1 = [.ce p es, .va (.int (mo : Int)), .va (.tuple (P.map eR)), .va (eR la), .va (.str (polyT P)), .va (eR one), .va (.str wd), .va (.int (fl : Int)), .va (.tuple [eR a, eR b]), .va (.str lg), s10, s11]) (de_if (dt_and (DT.of (dtp_test (dp_neS (dp_var rfl) dp_str)) ?_))) ?_)
    · by_cases hu0 : u = ""
      · rw [decide_eq_true hu0]
        rw [if_neg (by decide), if_neg (by decide)]
        exact DE.of (dp_var rfl) ⟨u, e13, _, _, rfl, by omega, pot_mono hp13 (by omega), rfl⟩
      · rw [decide_eq_false hu0]
        rw [if_pos (by decide)]
        refine dt_test (de_opL (de_callC (i := 0) rfl (DA.of (dap_cons dp_int dap_nil) ⟨e13, rfl, m + 14592 + 10 * i + 3 + 3, 3, rfl, by decide, by decide, by omega, hp13, fun k e14 k0 k1 hp14 => ⟨_, _, dp_int, r2_eqI rfl, _, rfl, ?_⟩⟩)))
        split
        · exact de_callC (i := 0) rfl (DA.of (dap_cons (dp_var rfl) dap_nil) ⟨e14, rfl, m + 14592 + 10 * i + 3 + 3 + 1, u, rfl, len_ne hu0, by omega, by omega, hp14, fun v e15 hv hp15 => ⟨v, e15, _, _, rfl, by omega, pot_mono hp15 (by omega), rfl⟩⟩)
        · exact DE.of (dp_var rfl) ⟨u, e14, _, _, rfl, by omega, pot_mono hp14 (by omega), rfl⟩
    rintro d ρ1 ⟨v, e16, t10, t11, rfl, hv, hp16, rfl⟩
    refine ds_ifp (b := false) (DTP.is (dtp_test (dp_neD (d := oS (lawS FL (tl v))) (e := oS (lawS FL (tl v))) (dp_call (dap_cons (dp_var rfl) dap_nil) ⟨v, rfl, hv, rfl⟩) (dp_call (dap_cons (dp_var rfl) dap_nil) ⟨v, rfl, hv, rfl⟩) sh_oS sh_oS)) (by rw [eqv_same sh_oS]; rfl)) (fun z => nomatch z) fun _ => ?_
    exact ds_next ⟨hl, e16, _, _, hp16, rfl⟩
  · rintro ρ2 ⟨hl, es, s10, s11, hp11, rfl⟩
    rw [hl] at hp11
    exact ⟨es, s10, s11, pot_mono hp11 (by omega), rfl⟩
  · rintro ρ' ⟨es, s10, s11, hpF, rfl⟩
    refine ds_retp (dp_andV (a := true) (b := true) (DP.is (dp_isN (d := .none) (dp_call (dap_cons dp_str dap_nil) ⟨("" : Str), rfl, by decide, readF_emp⟩)) rfl) fun _ => DP.is (dp_isN (d := .none) (dp_call (dap_cons dp_str dap_nil) ⟨("" : Str), rfl, by decide, lawS_emp⟩)) rfl) ⟨es, rfl, hT es hpF⟩
def c_law : Call := fun ds T => ∃ ns : List Int, ds = [.list (ns.map .int)] ∧ T (.bool true)
theorem len_law {ds T} (h : c_law ds T) : ds.length = 1 := by obtain ⟨_, rfl, _⟩ := h; rfl
abbrev N_law : List Str := ["script", "place", "pot", "lap"]
theorem sc_law : FnScope N_law ["script"] (defScope s_law) := ⟨rfl, rfl, rfl, by decide +kernel, rfl, by decide +kernel, by decide +kernel⟩
set_option maxHeartbeats 2000000 in
theorem ok_law {Pg : Program} {w : World} {K : Fg} {mg : Str → Option Value} {base : Heap} (C : Cs K mg) {fA : Addr} {fD : FuncData} (D0 : FnX K "law" s_law fA fD) (h__law_cells : OkF Pg w K mg base "_law_cells" 1 ["script", "most"] (spP K c_law_cells)) (h__law_pot : OkF Pg w K mg base "_law_pot" 1 ["script", "place"] (spN K c_law_pot)) (h__law_right : OkF Pg w K mg base "_law_right" 7 ["pot"] (spC K c_law_right)) : FnOk Pg w K mg base CX0 8 fA fD ["script"] (spP K c_law) := by
  refine okL D0 sc_law (fun ds T h => len_law h) fun f cdv A outer s H E hr => ⟨_, (pss_cons (ps_for PassesOwn.never rfl (pi_list (pe_cl h__law_cells (hr.mono (by decide)) (pa_cons (pv 0) (pa_cons pe_int pa_nil)))) (pg_name (i := 1) sc_law.nd rfl (.inl rfl))
        (pss_cons (ps_set (i := 2) sc_law.nd rfl (.inr rfl) (pe_cl h__law_pot (hr.mono (by decide)) (pa_cons (pv 0) (pa_cons (pv 1) pa_nil))))
        (pss_one (ps_if (pt_not (pt_val (pe_callB (cr_all rfl) (by rfl) C.f_all (by decide +kernel) (pa_cons (pe_lc (own := [("lap", 3)]) (g := gName 3) rfl sc_law.nd (pi_range1 (by rfl) C.f_range (pa_cons pe_int pa_nil)) (blkOk_by (N := N_law) (sc := defScope s_law) (by decide +kernel)) (fun _ _ _ _ _ => (pg_name (i := 3) sc_law.nd rfl (.inl rfl))) (fun _ _ _ _ _ => pts_nil) (fun _ _ _ _ _ => (pe_cl h__law_right (hr.mono (by decide)) (pa_cons (pv 2) pa_nil)))) pa_nil))))
          (pss_one (ps_ret pe_bl))
          pss_nil))))
      (pss_one (ps_ret pe_bl))), fun ds T h => ?_⟩
  obtain ⟨ns, rfl, hT⟩ := h
  refine ds_forq (fun ρ' => True) (ds_for (fun ds i ρ' => (∃ n : Nat, n ≤ 100 ∧ ds = (List.range n).map fun i : Nat => PyData.int (i : Int)) ∧ ∃ s1 s2 s3 : Sl, ρ' = [.va (.list (ns.map .int)), s1, s2, s3]) (di_list (de_call (DA.of (dap_cons (dp_var rfl) (dap_cons dp_int dap_nil)) ⟨_, 3, rfl, by decide, fun n hn => ⟨_, rfl, ⟨⟨n, hn, rfl⟩, .no, .no, .no, rfl⟩, ?_, fun _ _ => trivial⟩⟩)))) fun ρ' _ => ds_retp dp_bl hT
  rintro i d ρ2 hd ⟨_, s1, s2, s3, rfl⟩
  have hi : i < n := by
    have := (List.getElem?_eq_some_iff.mp hd).1
    rw [List.length_map, List.length_range] at this
    exact this
  have hd' : d = .int (i : Int) := by
    rw [List.getElem?_map, List.getElem?_range hi] at hd
    exact (Option.some.inj hd).symm
  subst hd'
  refine dg_name ?_
  refine ds_cell (by show 2 < 4; decide) (dn_call (DA.of (dap_cons (dp_var rfl) (dap_cons (dp_var rfl) dap_nil)) ⟨ns, i, rfl, by omega, fun cs hcs => ⟨rfl, fun p nc => ?_⟩⟩))
  refine ds_if (dt_not (dt_B (de_cb (da_cons (de_new (dn_lc (fun ds j acc ρ' => ds.length = 3 ∧ ∃ cs, acc = (List.replicate j true).map PyData.bool ∧ PotN (20000 * j) cs ∧ ∃ s4, ρ' = [.va (.list (ns.map .int)), .va (.int (i : Int)), .ce p cs, s4]) gw_name (di_rng1 (DA.of (dap_cons dp_int dap_nil) ⟨_, rfl, by decide, by decide, by decide, ?_, ?_, ?_⟩))))))))
  · exact ⟨rfl, cs, rfl, hcs, _, rfl⟩
  · rintro j d acc ρ2 hd ⟨_, cs, rfl, hcs, s4, rfl⟩
    have hj : j < 3 := by
      have := (List.getElem?_eq_some_iff.mp hd).1
      rw [List.length_map, List.length_range] at this
      exact this
    refine dg_name (dt_yes ?_)
    rw [if_pos rfl]
    refine de_callC rfl (DA.of dap_nil ⟨cs, rfl, 20000 * j, rfl, by omega, hcs, fun es hes => ⟨rfl, es, ?_, hes, .no, rfl⟩⟩)
    rw [List.replicate_succ', List.map_append]; rfl
  · rintro acc ρ2 ⟨hl, cs, rfl, hcs, s4, rfl⟩
    refine da_nil (rc_all ⟨_, rfl, ?_⟩)
    rw [hl]
    exact ds_next ⟨⟨n, hn, rfl⟩, _, _, _, rfl⟩

end H75
namespace H75
open PySem PySem.Spec PyProof.Rows L2 DL
def names0 : List PySem.Str := ["LoopError", "BadNumber", "BadPoly", "FIGURES", "MOST_FIGURES", "BEYOND", "PART", "MINUS", "STROKE", "NOTHING", "is_integer", "is_between", "read_integer", "common", "reduced", "is_fraction", "is_told_fraction", "added", "product_of", "integer_text", "fraction_text", "read_fraction", "MOST_DEGREE", "is_poly", "check_poly", "value_at", "poly_value", "power_text", "poly_text", "text_of_poly"]
def names1 : List PySem.Str := ["MOST_PRIME", "is_square", "core_told", "is_field", "check_field", "ROOT_SIGN", "PLUS", "is_surd", "check_surd", "text_of_surd", "surd_text", "split_place", "read_surd", "_law_pot", "_law_take", "_law_of", "_law_cells", "_law_reduced", "_law_minus", "_law_great", "_law_fraction", "_law_written", "_law_is_integer_text", "_law_read", "_law_poly_written", "_law_poly_read", "_law_bent", "_law_surd_written", "_law_surd_read", "_law_right"]
def names : List PySem.Str := names0 ++ names1
abbrev R : PySem.W.OpenRow := PySem.W.OpenLaw.row PySem.Challenge.rw_whennumbersstop_k75_whole_polynomials_an
abbrev hk : PySem.W.Hook := hookX 4 fa fn
def ob (s : PySem.W.SharedT) : He.AlD := obsXG 4 fa fn (HandSHeadRun.getT s)
theorem ob_eq (s : PySem.W.SharedT) : ob s = hk.obs s.abs := obsXG_eq (HandSHeadRun.getT_eq s)
abbrev qv : PySem.Program := PySem.W.view R.prog [0, 67]
theorem run (w : World) : HandSHeadRun.RunEqI R qv hk ob 4000 names w := by
  unfold HandSHeadRun.RunEqI
  kernel_rfl
end H75

namespace H75
open PySem PySem.Spec PyProof.Rows L2 DL
theorem facts {P : Program} {w : World} {K : Fg} {h : Heap} {mg : Str → Option Value} {f : Addr} (X : K.In h) (G : h.Ns mainGlobals mg) (hfa : mg ("law" : Str) = some (.ref f)) (c : SaysX fa fn K) :
    ∃ fd : FuncData, (∀ (s : Shared) (v : Value), BindsTo s fd ⟨[v], []⟩ [("script", v)]) ∧ ∀ base : Heap, K.In base → base.Ns mainGlobals mg → FnOk P w K mg base CX0 8 f fd ["script"] (spP K c_law) := by
  have C := cs_mk X G c
  obtain ⟨D_is_integer, D_is_between, D_read_integer, D_common, D_reduced, D_is_fraction, D_is_told_fraction, D_added, D_product_of, D_integer_text, D_fraction_text, D_read_fraction, D_is_poly, D_check_poly, D_value_at, D_poly_value, D_power_text, D_poly_text, D_text_of_poly, D_is_square, D_core_told, D_is_field, D_check_field, D_is_surd, D_check_surd, D_text_of_surd, D_surd_text, D_split_place, D_read_surd, D__law_pot, D__law_take, D__law_of, D__law_cells, D__law_reduced, D__law_minus, D__law_great, D__law_fraction, D__law_written, D__law_is_integer_text, D__law_read, D__law_poly_written, D__law_poly_read, D__law_bent, D__law_surd_written, D__law_surd_read, D__law_right, D_law⟩ := df_mk X G c
  obtain ⟨fd, F⟩ := c.def_ 46 (d := defX "law" s_law) rfl
  have e := hfa.symm.trans (He.glo_ok X G (c.fact 46 (f := .def_ "law") rfl))
  cases e
  have b := FunD.bindsA (ps := ["script"]) F fun _ _ _ _ _ _ us hl => match us, hl with | [_], _ => rfl
  refine ⟨fd, fun s v => b s [v] rfl, fun base _ _ => ?_⟩
  have k__law_cells := ok_law_cells (Pg := P) (w := w) (base := base) C D__law_cells 
  have k__law_pot := ok_law_pot (Pg := P) (w := w) (base := base) C D__law_pot 
  have k__law_take := ok_law_take (Pg := P) (w := w) (base := base) C D__law_take 
  have k__law_of := ok_law_of (Pg := P) (w := w) (base := base) C D__law_of k__law_take
  have k__law_great := ok_law_great (Pg := P) (w := w) (base := base) C D__law_great k__law_take
  have k__law_reduced := ok_law_reduced (Pg := P) (w := w) (base := base) C D__law_reduced 
  have k__law_fraction := ok_law_fraction (Pg := P) (w := w) (base := base) C D__law_fraction k__law_take k__law_great k__law_reduced
  have k_is_integer := ok_is_integer (Pg := P) (w := w) (base := base) C D_is_integer 
  have k_common := ok_common (Pg := P) (w := w) (base := base) C D_common 
  have k_is_fraction := ok_is_fraction (Pg := P) (w := w) (base := base) C D_is_fraction k_is_integer k_common
  have k_is_told_fraction := ok_is_told_fraction (Pg := P) (w := w) (base := base) C D_is_told_fraction k_is_fraction
  have k_is_poly := ok_is_poly (Pg := P) (w := w) (base := base) C D_is_poly k_is_told_fraction
  have k_check_poly := ok_check_poly (Pg := P) (w := w) (base := base) C D_check_poly k_is_poly
  have k_power_text := ok_power_text (Pg := P) (w := w) (base := base) C D_power_text 
  have k_integer_text0 := ok_integer_text0 (Pg := P) (w := w) (base := base) C D_integer_text 
  have k_integer_text := ok_integer_text (Pg := P) (w := w) (base := base) C D_integer_text k_integer_text0
  have k_fraction_text := ok_fraction_text (Pg := P) (w := w) (base := base) C D_fraction_text k_integer_text
  have k_text_of_poly := ok_text_of_poly (Pg := P) (w := w) (base := base) C D_text_of_poly k_power_text k_fraction_text
  have k_poly_text := ok_poly_text (Pg := P) (w := w) (base := base) C D_poly_text k_check_poly k_text_of_poly
  have k__law_is_integer_text := ok_law_is_integer_text (Pg := P) (w := w) (base := base) C D__law_is_integer_text 
  have k__law_read := ok_law_read (Pg := P) (w := w) (base := base) C D__law_read k__law_is_integer_text k__law_reduced
  have k__law_poly_read := ok_law_poly_read (Pg := P) (w := w) (base := base) C D__law_poly_read k__law_read
  have k__law_written := ok_law_written (Pg := P) (w := w) (base := base) C D__law_written 
  have k__law_poly_written := ok_law_poly_written (Pg := P) (w := w) (base := base) C D__law_poly_written k__law_written
  have k_reduced := ok_reduced (Pg := P) (w := w) (base := base) C D_reduced k_common
  have k_added := ok_added (Pg := P) (w := w) (base := base) C D_added k_reduced
  have k_product_of := ok_product_of (Pg := P) (w := w) (base := base) C D_product_of k_reduced
  have k_value_at := ok_value_at (Pg := P) (w := w) (base := base) C D_value_at k_added k_product_of
  have k_poly_value := ok_poly_value (Pg := P) (w := w) (base := base) C D_poly_value k_check_poly k_is_told_fraction k_value_at
  have k_read_integer := ok_read_integer (Pg := P) (w := w) (base := base) C D_read_integer 
  have k_read_fraction := ok_read_fraction (Pg := P) (w := w) (base := base) C D_read_fraction k_read_integer k_is_fraction
  have k_is_between := ok_is_between (Pg := P) (w := w) (base := base) C D_is_between k_is_integer
  have k_is_square := ok_is_square (Pg := P) (w := w) (base := base) C D_is_square 
  have k_core_told := ok_core_told (Pg := P) (w := w) (base := base) C D_core_told k_is_square
  have k_is_field := ok_is_field (Pg := P) (w := w) (base := base) C D_is_field k_is_between k_core_told
  have k_check_field := ok_check_field (Pg := P) (w := w) (base := base) C D_check_field k_is_field
  have k_is_surd := ok_is_surd (Pg := P) (w := w) (base := base) C D_is_surd k_is_told_fraction
  have k_check_surd := ok_check_surd (Pg := P) (w := w) (base := base) C D_check_surd k_is_surd
  have k_text_of_surd := ok_text_of_surd (Pg := P) (w := w) (base := base) C D_text_of_surd k_fraction_text k_integer_text
  have k_surd_text := ok_surd_text (Pg := P) (w := w) (base := base) C D_surd_text k_check_field k_check_surd k_text_of_surd
  have k_split_place := ok_split_place (Pg := P) (w := w) (base := base) C D_split_place 
  have k_read_surd := ok_read_surd (Pg := P) (w := w) (base := base) C D_read_surd k_split_place k_read_fraction k_read_integer k_is_integer k_is_field
  have k__law_minus := ok_law_minus (Pg := P) (w := w) (base := base) C D__law_minus 
  have k__law_surd_read := ok_law_surd_read (Pg := P) (w := w) (base := base) C D__law_surd_read k__law_read k__law_is_integer_text k_is_field k__law_minus
  have k__law_surd_written := ok_law_surd_written (Pg := P) (w := w) (base := base) C D__law_surd_written k__law_written
  have k__law_bent := ok_law_bent (Pg := P) (w := w) (base := base) C D__law_bent k__law_take k__law_of
  have k__law_right := ok_law_right (Pg := P) (w := w) (base := base) C D__law_right k__law_of k__law_take k__law_fraction k_poly_text k__law_poly_read k__law_poly_written k_poly_value k_fraction_text k_read_fraction k__law_written k_surd_text k_read_surd k__law_surd_read k__law_surd_written k__law_bent k__law_read
  exact ok_law C F k__law_cells k__law_pot k__law_right
end H75
open PySem PySem.W PySem.Calls PyProof.Rows
theorem PySem.Challenge.cw_whennumbersstop_k75_whole_polynomials_an_holds : PySem.Challenge.rw_whennumbersstop_k75_whole_polynomials_an.Holds := by
  w_on; o_law
  refine HandSHeadRun.head_imp (r := OpenLaw.row PySem.Challenge.rw_whennumbersstop_k75_whole_polynomials_an) (q := H75.qv) (H := H75.hk) (ob := H75.ob) (M := 4000) (loose := H75.names) (d := HandSHeadRun.topDef (OpenLaw.row PySem.Challenge.rw_whennumbersstop_k75_whole_polynomials_an).prog 67) (kwd := []) H75.ob_eq
    H75.run (by kernel_rfl) (by kernel_rfl) (by kernel_rfl) (by rfl) (by first | assumption | decide +kernel) (by decide +kernel) ⟨rfl, rfl, rfl, rfl, rfl, by decide +kernel⟩ ?hw ?hc
  case hw => w_witness2
  case hc =>
    refine L2.walk_ofE (l := PySem.Challenge.rw_whennumbersstop_k75_whole_polynomials_an) (n := 63) (k := 8) (x := "script") (CX := L2.CX0) rfl (by decide) (by kernel_rfl) ⟨rfl, by decide, by decide⟩ ?F (fun _ _ _ _ z => z)
    intro w mg fa h Y G hmg0
    obtain ⟨K, KX, c⟩ := Y
    have hmg : mg ("law" : PySem.Str) = some (.ref fa) := by
      have e : (HandSHeadRun.topDef (OpenLaw.row PySem.Challenge.rw_whennumbersstop_k75_whole_polynomials_an).prog 67).name = ("law" : PySem.Str) := by kernel_rfl
      rw [← e]
      exact hmg0
    obtain ⟨fd, hb, hF⟩ := H75.facts (P := (PySem.Challenge.rw_whennumbersstop_k75_whole_polynomials_an).prog) (w := w) KX G hmg c
    exact ⟨K, fd, DL.spP K H75.c_law, KX, hb, fun H a ns hl _ hS => DL.law_in hS ⟨ns, rfl, rfl⟩ (fun _ => rfl), hF⟩

